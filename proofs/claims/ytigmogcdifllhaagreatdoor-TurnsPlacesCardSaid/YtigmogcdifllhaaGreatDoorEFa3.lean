import Derived.Test.YtigmogcdifllhaaGreatDoorEBase
import Derived.Test.YtigmogcdifllhaaGreatDoorEFa2
import Derived.Test.YtigmogcdifllhaaGreatDoorYa6
import Derived.Test.YtigmogcdifllhaaGreatDoorPCmp
import Derived.Ground.SlsfProg
set_option linter.unusedVariables false
set_option linter.unusedSimpArgs false
namespace Go.SL
namespace Saw
open Go.Proofs Go.Proofs.Tryz
set_option maxHeartbeats 4000000
set_option maxRecDepth 100000
def qCa (r:Bool):V:=vb r
def qBF (r:Bool):List (Nat×(Nat×O)):=[]
def qNp (a1:List qA) (x2:Int) (x10:Bool):St:=
 ⟨[(5,vc (tl qB dd a1)),(6,vi (a1.length:Int)),(7,vi x2),(20,vb x10)],[]⟩
def SP (a1:List qA) (x2:Int):St:=
 ⟨[(5,vc (tl qB dd a1)),(6,vi (a1.length:Int)),(7,vi x2)],[]⟩
def qEx :St:=
 ⟨[],[]⟩
theorem qLQ (E:Env 0) (a1:List qA):∀(n:Nat) (x2:Int) (res:Bool⊕Unit),WE a1 n x2=some res->HL (kx E 22 0) (nd f199 52) (wC 0 (λo=>qEx) (λv st=>RetQ Tryz.prog f199 (qCa v) (qBF v) .ret st) res) n (SP a1 x2):=by
 intro n
 induction n with
 |zero=>
  intro x2 res hm;cases hm
 |succ n ih=>
  intro x2 res hm;refine qR (s_va 0 [(8,vb (decide (x2<(a1.length:Int))))] ?_);refine q_sq (q_cq hm (λhm=>?_) (λhm=>?_))
  ·refine q_sk (q_sq ?_);refine q_bk 1 ?_;obtain⟨g4,hm⟩:=qI hm;refine s_vu [qi 0 g4] 0 [8] [(4,vp 0 0)] [] [(0,bx 93 (qB (a1.getD x2.toNat dd)))] (q_jn (qNp a1 x2) (λp=>NC x2 (WE a1 n) p=some res) ?_ ?_)
   ·rintro x10 hm;refine q_cq hm (λhm=>?_) (λhm=>?_)
    ·refine s_vn [] 1 ⟨[(2,vb false)],[]⟩ ?_;obtain rfl:=oi hm;refine q_rt (zJ false ?_);exact q_rm
    ·refine q_sk (q_vv [] 1 [7,20] [(7,vi (w64 (x2+1)))] ?_);exact q_hl (SP a1 (w64 (x2+1))) (ih (w64 (x2+1)) _ hm)
   ·obtain⟨v5,h6,hm⟩:=qC hm;rcases bif_c hm with⟨b7,hm⟩|⟨b7,hm⟩
    ·exact q_vu [qc 2 [12] 1 (qB9 ((a1.getD x2.toNat dd).X) v5 h6),qf 4 b7] 1 [4] [(20,vb true)] [0] [] (q_J (true) hm)
    ·obtain⟨v8,h9,hm⟩:=qC hm;exact q_vu [qc 2 [12] 1 (qB9 ((a1.getD x2.toNat dd).X) v5 h6),qf 4 b7,qk 7 [15,17] 1 ⟨[(15,vb false),(17,vi ((a1.getD x2.toNat dd).Y))],[]⟩ (qB9 ((a1.getD x2.toNat dd).Y) v8 h9)] 1 [4] [(20,vb (!v8))] [0] [] (q_J (!v8) hm)
  ·refine q_ex 0 ?_;obtain rfl:=oi hm;exact q_l1 ()
theorem qAq (a1:List qA) (r:Bool) (hm:KO a1=some r):CtX Tryz.prog globs 199 0 0 [.one (tl qB dd a1)] [] (qCa r) (qBF r):=by
 unfold KO at hm;refine q_E f199 22 λE=>?_;refine s_vn [] 0 ⟨[(0,vc (tl qB dd a1))],[]⟩ (q_sq ?_);refine s_vn [] 0 ⟨[(5,vc (tl qB dd a1)),(6,vi (a1.length:Int)),(7,vi 0)],[]⟩ ?_;obtain⟨u14,h13,hm⟩:=qC hm;refine zQ (nd f199 52) 0 (by kernel_rfl) FUEL (λo=>qEx) (λv st=>RetQ Tryz.prog f199 (qCa v) (qBF v) .ret st) u14 (q_hl (SP a1 0) (qLQ E a1 FUEL 0 u14 h13)) ?_ ?_
 ·rintro v15 rfl st hr;obtain rfl:=oi hm;exact hr
 ·rintro o12 rfl;replace hm:_=some r:=hm;refine s_vn [] 0 ⟨[(2,vb true)],[]⟩ ?_;obtain rfl:=oi hm;exact q_rt q_rm
def qXs (r:Int):V:=vi r
def qXi (r:Int):List (Nat×(Nat×O)):=[]
def qAT (a1:List qA) (x7:Int) (x8:Int):St:=
 ⟨[(0,vc (tl qB dd a1)),(3,vi x7),(15,vc (tl qB dd a1)),(16,vi (a1.length:Int)),(17,vi x8)],[]⟩
def qGQ (x13:Int):St:=
 ⟨[(3,vi x13)],[]⟩
def qQF (a1:List qA) (x5:Bool):St:=
 ⟨[(0,vc (tl qB dd a1)),(14,vb x5)],[]⟩
theorem qPL (E:Env 0) (a1:List qA):∀(n:Nat) (x7:Int) (x8:Int) (res:Int),PH a1 n x7 x8=some res->HL (kx E 45 0) (nd f200 244) (zF 0 qGQ res) n (qAT a1 x7 x8):=by
 intro n
 induction n with
 |zero=>
  intro x7 x8 res hm;cases hm
 |succ n ih=>
  intro x7 x8 res hm;refine qR (s_va 0 [(18,vb (decide (x8<(a1.length:Int))))] ?_);refine q_sq (q_cq hm (λhm=>?_) (λhm=>?_))
  ·refine q_sk (q_sq ?_);refine q_bk 1 ?_;obtain⟨g10,hm⟩:=qI hm;refine s_vu [qi 1 g10] 0 [18] [(4,vi x8),(5,vp 0 0)] [] [(0,bx 93 (qB (a1.getD x8.toNat dd)))] ?_;obtain⟨g11,hm⟩:=qI hm;obtain⟨g12,hm⟩:=qI hm;refine s_vu [qd 5 dN (JK g11),qi 6 g12] 1 [4] [(6,vp 1 0)] [] [(1,bx 93 (qB (a1.getD (Int.tmod (w64 (x8+1)) (a1.length:Int)).toNat dd)))] (q_vu [] 2 [3,5,6] [(3,vi (w64 (x7+(w64 ((w64 (((a1.getD x8.toNat dd).X)*((a1.getD (Int.tmod (w64 (x8+1)) (a1.length:Int)).toNat dd).Y)))-(w64 (((a1.getD (Int.tmod (w64 (x8+1)) (a1.length:Int)).toNat dd).X)*((a1.getD x8.toNat dd).Y))))))))] [0,1] [] ?_)
   exact q_vv [] 2 [17] [(17,vi (w64 (x8+1)))] (q_hl (qAT a1 (w64 (x7+(w64 ((w64 (((a1.getD x8.toNat dd).X)*((a1.getD (Int.tmod (w64 (x8+1)) (a1.length:Int)).toNat dd).Y)))-(w64 (((a1.getD (Int.tmod (w64 (x8+1)) (a1.length:Int)).toNat dd).X)*((a1.getD x8.toNat dd).Y))))))) (w64 (x8+1))) (ih (w64 (x7+(w64 ((w64 (((a1.getD x8.toNat dd).X)*((a1.getD (Int.tmod (w64 (x8+1)) (a1.length:Int)).toNat dd).Y)))-(w64 (((a1.getD (Int.tmod (w64 (x8+1)) (a1.length:Int)).toNat dd).X)*((a1.getD x8.toNat dd).Y))))))) (w64 (x8+1)) _ hm))
  ·refine q_ex 0 ?_;obtain rfl:=oi hm;exact q_l0
theorem qUz (a1:List qA) (r:Int) (hm:qAF a1=some r):CtX Tryz.prog globs 200 0 0 [.one (tl qB dd a1)] [] (qXs r) (qXi r):=by
 unfold qAF at hm;refine q_E f200 45 λE=>?_;refine s_vn [] 0 ⟨[(0,vc (tl qB dd a1))],[]⟩ (q_sq ?_);refine q_jn (qQF a1) (λp=>AY a1 p=some r) ?_ ?_
 ·rintro x5 hm;refine q_cq hm (λhm=>?_) (λhm=>?_)
  ·refine s_vn [] 0 ⟨[(2,vi 0)],[]⟩ ?_;obtain rfl:=oi hm;exact q_rt q_rm
  ·refine q_sk (s_vv [] 0 [14] [(3,vi 0)] ?_);refine q_sq (s_va 0 [(15,vc (tl qB dd a1)),(16,vi (a1.length:Int)),(17,vi 0)] ?_);obtain⟨o14,h15,hm⟩:=qC hm;refine zB (nd f200 244) 0 (by kernel_rfl) FUEL qGQ o14 (q_hl (qAT a1 0 0) (qPL E a1 FUEL 0 0 o14 h15)) (s_vn [] 0 ⟨[(2,vi o14)],[]⟩ ?_);obtain rfl:=oi hm;exact q_rt q_rm
 ·rcases bif_c hm with⟨b2,hm⟩|⟨b2,hm⟩
  ·exact q_vv [qf 3 b2] 0 [] [(14,vb true)] (q_J (true) hm)
  ·obtain⟨v3,h4,hm⟩:=qC hm;exact q_vv [qf 3 b2,qk 5 [10,11] 0 ⟨[(10,vb false),(11,vc (tl qB dd a1))],[]⟩ (qAq a1 v3 h4)] 0 [] [(14,vb (!v3))] (q_J (!v3) hm)
def qYg (r:Int):V:=vi r
def qYh (r:Int):List (Nat×(Nat×O)):=[]
theorem qVd (a1:List qA) (r:Int) (hm:qAL a1=some r):CtX Tryz.prog globs 151 0 0 [.one (tl qB dd a1)] [] (qYg r) (qYh r):=by
 unfold qAL at hm;refine q_E f151 19 λE=>?_;refine s_vn [] 0 ⟨[(0,vc (tl qB dd a1))],[]⟩ (q_sq ?_);refine q_bk 0 (s_va 0 [(3,vb (decide ((a1.length:Int)<3)))] ?_);refine q_cq hm (λhm=>?_) (λhm=>?_)
 ·refine s_vn [] 0 ⟨[(2,vi 3)],[]⟩ ?_;obtain rfl:=oi hm;exact q_rt q_rm
 ·refine s_vv [] 0 [3] [(7,vb (decide ((a1.length:Int)>32)))] (q_cq hm (λhm=>?_) (λhm=>?_))
  ·refine s_vn [] 0 ⟨[(2,vi 4)],[]⟩ ?_;obtain rfl:=oi hm;exact q_rt q_rm
  ·obtain⟨v4,h5,hm⟩:=qC hm;refine s_vv [qc 1 [12] 0 (qAq a1 v4 h5)] 0 [7] [(11,vb (!v4))] (q_cq hm (λhm=>?_) (λhm=>?_))
   ·refine s_vn [] 0 ⟨[(2,vi 9)],[]⟩ ?_;obtain rfl:=oi hm;exact q_rt q_rm
   ·obtain⟨v7,h8,hm⟩:=qC hm;refine s_vn [qc 1 [16] 0 (qUz a1 v7 h8)] 0 ⟨[(15,vb (v7==0))],[]⟩ (q_cq hm (λhm=>?_) (λhm=>?_))
    ·refine s_vn [] 0 ⟨[(2,vi 19)],[]⟩ ?_;obtain rfl:=oi hm;exact q_rt q_rm
    ·refine q_sk (s_vn [] 0 ⟨[(2,vi 0)],[]⟩ ?_);obtain rfl:=oi hm;exact q_rt q_rm
open Go.Proofs Go.Proofs.Tryz
def qNj (r:Span):V:=va (qE r)
def qNB (r:Span):List (Nat×(Nat×O)):=[]
theorem LM (a1:Int) (a2:Int) (r:Span) (hm:JX a1 a2=some r):CtX Tryz.prog globs 153 0 0 [.one (ci a1),.one (ci a2)] [] (qNj r) (qNB r):=by
 unfold JX at hm;refine q_E f153 10 λE=>?_;refine s_vn [] 0 ⟨[(0,vi a1),(1,vi a2),(4,vp 0 0)],[(0,bx 53 [ci 0,ci 0])]⟩ (s_vu [] 1 [0,1] [] [0] [(0,bx 53 [ci (w64 (10*a1)),ci (w64 (10*a2))])] ?_);obtain rfl:=oi hm;exact q_rt q_rm
def qIY (r:List qA):V:=vo 0 0 2 r.length
def qJe (r:List qA):List (Nat×(Nat×O)):=[(0,ro 0 93 2 r.length (rf qB r))]
theorem qH0 (a1:List qA) (r:List qA) (hm:WX a1=some r):CtX Tryz.prog globs 227 0 0 [.one (tl qB dd a1)] [] (qIY r) (qJe r):=by
 unfold WX at hm;obtain⟨g1,hm⟩:=qI hm;obtain rfl:=kD hm;refine qCs (fn:=f227) (c:=nd f227 1) (nt:=8) (by kernel_rfl) (by kernel_rfl) (by kernel_rfl) (by kernel_rfl) λE=>?_;refine R_sq f227 2 3 (by kernel_rfl) (R_rn f227 2 0 [] [] 0 ⟨[(0,vc (tl qB dd a1))],[]⟩ o0 (by kernel_rfl) (by kernel_rfl) ?_);refine R_sq f227 6 7 (by kernel_rfl) (R_sq f227 12 13 (by kernel_rfl) ?_);refine qQ4 f227 12 1 1 ⟨[(0,vc (tl qB dd a1)),(3,vc (tl qB dd a1))],[]⟩ 111 111 93 4 (.tmp 3) a1.length (rf qB a1) (by kernel_rfl) (by kernel_rfl) (by kernel_rfl) (λb hb=>?_)
 refine R_cn f227 (.tmp 4) 26 27 (by kernel_rfl) b (by kernel_rfl) (λb6=>?_) (λb6=>?_)
 ·obtain rfl:a1=[]:=ua (hb b6);refine R_sq f227 52 53 (by kernel_rfl) (R_rn f227 52 2 [] [.own 2 0 93 2 (rf qB [])] 0 ⟨[(2,vo 0 0 2 0)],[(0,ro 0 93 2 0 (rf qB []))]⟩ o0 (by kernel_rfl) (by kernel_rfl) ?_);exact qAS (by kernel_rfl) (LQ (by kernel_rfl) (by kernel_rfl))
 ·refine qID (by kernel_rfl) (R_sq f227 14 15 (by kernel_rfl) ?_);refine R_rn f227 14 3 [(0,drw 0 0 (rf qB [])),(2,drw 0 1 (rf qB ([]++a1)))] [.len 0 a1.length] 0 ⟨[(2,vo 0 1 2 a1.length)],[(0,ro 1 93 2 a1.length (rf qB ([]++a1)))]⟩ (o1 (And.intro (And.intro (litP qB dd 2 (λ_=>rfl) ([]:List qA) 0 rfl) (apP qB dd ([]:List qA) a1 0 a1.length 2 16 True trivial rfl rfl (λ_=>rfl) (by have:=zN g1;rw[ky];exact this))) (And.intro (And.intro (ky a1.length) (ky a1.length)) (ky a1.length)))) (by kernel_rfl) (by kernel_rfl) (qAS (by kernel_rfl) ?_);exact LQ (by kernel_rfl) (by kernel_rfl)
def qR5 (r:Bool):V:=vb r
def qQc (r:Bool):List (Nat×(Nat×O)):=[]
theorem qEm (a1:Int) (r:Bool) (hm:DH a1=some r):CtX Tryz.prog (markG::globs) 254 0 0 [.one (ci a1)] [] (qR5 r) (qQc r):=by
 unfold DH at hm;refine q_T f254 6 λE=>?_;refine s_vn [] 0 ⟨[(0,vi a1)],[]⟩ (s_vn [] 0 ⟨[(2,vb (a1 !=a1))],[]⟩ ?_);obtain rfl:=oi hm;exact q_rt q_rm
open Go.Proofs Go.Proofs.Tryz
def qNa (r:Int):V:=vi r
def qNg (r:Int):List (Nat×(Nat×O)):=[]
theorem qBy (a1:Int) (a2:Int) (r:Int) (hm:YH a1 a2=some r):CtX Tryz.prog (markG::globs) 231 0 0 [.one (ci a1),.one (ci a2)] [] (qNa r) (qNg r):=by
 unfold YH at hm;refine q_T f231 20 λE=>?_;refine s_vn [] 0 ⟨[(0,vi a1),(1,vi a2)],[]⟩ ?_;obtain⟨v3,h4,hm⟩:=qC hm;refine s_vv [qc 1 [7] 0 (qEm a1 v3 h4)] 0 [] [(5,vb v3)] ?_;obtain⟨v5,h6,hm⟩:=qC hm;refine s_vv [qc 1 [9] 0 (qEm a2 v5 h6)] 0 [] [(6,vb v5)] (q_sq ?_);refine s_vv [] 0 [5] [(11,vb v3)] (q_cq hm (λhm=>?_) (λhm=>?_))
 ·refine q_sq (s_vn [] 0 ⟨[(12,vb v5)],[]⟩ ?_);refine q_cq hm (λhm=>?_) (λhm=>?_)
  ·refine s_vn [] 0 ⟨[(4,vi 0)],[]⟩ ?_;obtain rfl:=oi hm;exact q_rt q_rm
  ·refine q_sk (s_vn [] 0 ⟨[(4,vi (-1))],[]⟩ ?_);obtain rfl:=oi hm;exact q_rt q_rm
 ·refine q_sk (q_sq ?_);refine s_vv [] 0 [6,11] [(13,vb v5)] (q_cq hm (λhm=>?_) (λhm=>?_))
  ·refine s_vn [] 0 ⟨[(4,vi 1)],[]⟩ ?_;obtain rfl:=oi hm;exact q_rt q_rm
  ·refine q_sk (q_sq ?_);refine s_vv [] 0 [13] [(16,vb (decide (a1<a2)))] (q_cq hm (λhm=>?_) (λhm=>?_))
   ·refine s_vn [] 0 ⟨[(4,vi (-1))],[]⟩ ?_;obtain rfl:=oi hm;exact q_rt q_rm
   ·refine q_sk (q_sq ?_);refine s_vn [] 0 ⟨[(19,vb (decide (a1>a2)))],[]⟩ (q_cq hm (λhm=>?_) (λhm=>?_))
    ·refine s_vn [] 0 ⟨[(4,vi 1)],[]⟩ ?_;obtain rfl:=oi hm;exact q_rt q_rm
    ·refine q_sk (s_vn [] 0 ⟨[(4,vi 0)],[]⟩ ?_);obtain rfl:=oi hm;exact q_rt q_rm
def AP (r:Int):V:=vi r
def PD (r:Int):List (Nat×(Nat×O)):=[]
theorem qVb (r:Int):wQ (PD r):=by
 intro i k o h;unfold PD at h;cases h
def IP (a1:List Int) (x2:Int):St:=
 ⟨[(3,vi 0),(6,vc (tl qF dd a1)),(7,vi (a1.length:Int)),(8,vi x2)],[]⟩
def qGe :St:=
 ⟨[(3,vi 0)],[]⟩
theorem qMy (E:Env 0) (a1:List Int):∀(n:Nat) (x2:Int) (res:Int⊕Unit),KB a1 n x2=some res->HL (kt E 18 0) (nd f230 116) (wC 0 (λo=>qGe) (λv st=>RetQ Tryz.prog f230 (AP v) (PD v) .ret st) res) n (IP a1 x2):=by
 intro n
 induction n with
 |zero=>
  intro x2 res hm;cases hm
 |succ n ih=>
  intro x2 res hm;refine qR (s_va 0 [(9,vb (decide (x2<(a1.length:Int))))] ?_);refine q_sq (q_cq hm (λhm=>?_) (λhm=>?_))
  ·refine q_sk (q_sq ?_);refine q_bk 1 ?_;obtain⟨g4,hm⟩:=qI hm;refine s_vv [qi 0 g4] 0 [9] [(5,vi (a1.getD x2.toNat dd))] (s_va 0 [(14,vb ((a1.getD x2.toNat dd) !=0))] ?_);refine q_cq hm (λhm=>?_) (λhm=>?_)
   ·refine s_vn [] 0 ⟨[(2,vi (a1.getD x2.toNat dd))],[]⟩ ?_;obtain rfl:=oi hm;refine q_rt (zJ (a1.getD x2.toNat dd) ?_);exact q_rm
   ·refine q_sk (q_vv [] 0 [5,8,14] [(8,vi (w64 (x2+1)))] ?_);exact q_hl (IP a1 (w64 (x2+1))) (ih (w64 (x2+1)) _ hm)
  ·refine q_ex 0 ?_;obtain rfl:=oi hm;exact q_l1 ()
theorem qQG (a1:List Int) (r:Int) (hm:ET a1=some r):CtX Tryz.prog (markG::globs) 230 0 0 [.one (tl qF dd a1)] [] (AP r) (PD r):=by
 unfold ET at hm;refine q_T f230 18 λE=>?_;refine s_vn [] 0 ⟨[(0,vc (tl qF dd a1))],[]⟩ (s_va 0 [(3,vi 0)] ?_);refine q_sq (s_vv [] 0 [0] [(6,vc (tl qF dd a1)),(7,vi (a1.length:Int)),(8,vi 0)] ?_);obtain⟨u8,h7,hm⟩:=qC hm;refine zQ (nd f230 116) 0 (by kernel_rfl) FUEL (λo=>qGe) (λv st=>RetQ Tryz.prog f230 (AP v) (PD v) .ret st) u8 (q_hl (IP a1 0) (qMy E a1 FUEL 0 u8 h7)) ?_ ?_
 ·rintro v9 rfl st hr;obtain rfl:=oi hm;exact hr
 ·rintro o6 rfl;replace hm:_=some r:=hm;refine s_vn [] 0 ⟨[(2,vi 0)],[]⟩ ?_;obtain rfl:=oi hm;exact q_rt q_rm
def qVo (r:Int):V:=vi r
def qUu (r:Int):List (Nat×(Nat×O)):=[]
theorem qQO (a1:qA) (a2:qA) (r:Int) (hm:poly_Hull_1 a1 a2=some r):CtX Tryz.prog (markG::globs) 229 0 0 [.agg (qB a1),.agg (qB a2)] [] (qVo r) (qUu r):=by
 unfold poly_Hull_1 at hm;refine q_T f229 17 λE=>?_;refine s_vn [] 0 ⟨[(2,vp 0 0),(3,vp 1 0)],[(0,bx 93 (qB a1)),(1,bx 93 (qB a2))]⟩ ?_;obtain⟨v3,h4,hm⟩:=qC hm;obtain⟨v5,h6,hm⟩:=qC hm;obtain⟨v7,h8,hm⟩:=qC hm
 refine s_dn [qc 4 [6,8] 2 (qBy a1.X a2.X v3 h4),qc 9 [11,13] 2 (qBy a1.Y a2.Y v5 h6),qd 10 (drw 2 0 (rf qF [v3,v5])) (litP qF dd 1 (λ_=>rfl) ([v3,v5]:List Int) 2 rfl),qd 11 (dex (cen [] [] 3 0 (AP v7) (PD v7) [15] [2])) (zW (K:=(kt E 17 0)) (xs':=[.one (.lst 2 (rf qF [v3,v5]))]) (b:=false) ⟨[(15,vo 2 0 1 2)],[(2,ro 0 3 1 2 (rf qF [v3,v5]))]⟩ (opAt (rg f229 6) 11) [] [] 3 (o1 (kd 2)) (by simp only[tl,rf,show([v3,v5]:List Int).length=2 from rfl]) (qQG ([v3,v5]:List Int) v7 h8) (.inr ⟨(by kernel_rfl),qVb v7⟩) (by kernel_rfl))] [0,1,0,4,15,0,32,0,128,511,1023,2047,4095] 2 ⟨[(4,vi v7)],[]⟩ ?_
 obtain rfl:=oi hm;exact q_rt q_rm
open Go.Proofs
def LC (a1:List qA) (r:List qA):V:= .undef
def NV (a1:List qA) (r:List qA):List (Nat×(Nat×O)):=[(0,ro 0 93 2 r.length (rf qB r))]
theorem lfB {α:Type} {o:Option α} {a b:α} (h:o=some a) (e:a=b:=by kernel_rfl):o=some b:=h.trans (congrArg some e)
def slices_SortFunc_SPoint_lay_ren :Go.Shelf.Ren:=⟨fun |6=>228|15=>213|14=>253|28=>247|29=>248|20=>269|21=>270|22=>271|23=>272|24=>273|25=>274|26=>275|27=>276|46=>288|47=>259|48=>260|49=>289|50=>290|57=>293|n=>n,fun |22=>111|24=>93|25=>256|3=>3|39=>246|0=>0|53=>267|55=>161|4=>4|46=>260|45=>259|50=>221|5=>5|9=>9|66=>274|70=>278|76=>294|77=>107|n=>n,fun n=>n⟩
theorem slices_SortFunc_SPoint_lay : Go.Proofs.SlLaysF0.n6 Tryz.prog slices_SortFunc_SPoint_lay_ren :={mixed:=by kernel_rfl,f6:=⟨Tryz.f228.name,by decide,lfB Tryz.func228⟩,f14:=⟨Tryz.f253.name,by decide,lfB Tryz.func253⟩,f15:=lfB Tryz.func213,f20:=⟨Tryz.f269.name,by decide,lfB Tryz.func269⟩,f21:=⟨Tryz.f270.name,by decide,lfB Tryz.func270⟩,f22:=⟨Tryz.f271.name,by decide,lfB Tryz.func271⟩,f23:=⟨Tryz.f272.name,by decide,lfB Tryz.func272⟩,f24:=⟨Tryz.f273.name,by decide,lfB Tryz.func273⟩,f25:=⟨Tryz.f274.name,by decide,lfB Tryz.func274⟩,f26:=⟨Tryz.f275.name,by decide,lfB Tryz.func275⟩,f27:=⟨Tryz.f276.name,by decide,lfB Tryz.func276⟩,f28:=lfB Tryz.func247,f29:=lfB Tryz.func248,f46:=⟨Tryz.f288.name,by decide,lfB Tryz.func288⟩,f47:=lfB Tryz.func259,f48:=lfB Tryz.func260,f49:=⟨Tryz.f289.name,by decide,lfB Tryz.func289⟩,f50:=⟨Tryz.f290.name,by decide,lfB Tryz.func290⟩,f57:=⟨Tryz.f293.name,by decide,lfB Tryz.func293⟩,t0:=Tryz.underlying0,a0:=Tryz.isAgg0,z0:=Tryz.sizeOf0,v0:=Tryz.zeroValue0,t3:=Tryz.underlying3,a3:=Tryz.isAgg3,z3:=Tryz.sizeOf3,v3:=Tryz.zeroValue3,t4:=Tryz.underlying4,a4:=Tryz.isAgg4,z4:=Tryz.sizeOf4,v4:=Tryz.zeroValue4,t5:=Tryz.underlying5,a5:=Tryz.isAgg5,z5:=Tryz.sizeOf5,v5:=Tryz.zeroValue5,t9:=Tryz.underlying9,a9:=Tryz.isAgg9,z9:=Tryz.sizeOf9,v9:=Tryz.zeroValue9,t22:=Tryz.underlying111,a22:=Tryz.isAgg111,z22:=Tryz.sizeOf111,v22:=Tryz.zeroValue111,t25:=Tryz.underlying256,a25:=Tryz.isAgg256,z25:=Tryz.sizeOf256,v25:=Tryz.zeroValue256,t39:=Tryz.underlying246,a39:=Tryz.isAgg246,z39:=Tryz.sizeOf246,v39:=Tryz.zeroValue246,t45:=Tryz.underlying259,a45:=Tryz.isAgg259,z45:=Tryz.sizeOf259,v45:=Tryz.zeroValue259,t46:=Tryz.underlying260,a46:=Tryz.isAgg260,z46:=Tryz.sizeOf260,v46:=Tryz.zeroValue260,t50:=Tryz.underlying221,a50:=Tryz.isAgg221,z50:=Tryz.sizeOf221,v50:=Tryz.zeroValue221,t53:=Tryz.underlying267,a53:=Tryz.isAgg267,z53:=Tryz.sizeOf267,v53:=Tryz.zeroValue267,t55:=Tryz.underlying161,a55:=Tryz.isAgg161,z55:=Tryz.sizeOf161,v55:=Tryz.zeroValue161,t66:=Tryz.underlying274,a66:=Tryz.isAgg274,z66:=Tryz.sizeOf274,v66:=Tryz.zeroValue274,t70:=Tryz.underlying278,a70:=Tryz.isAgg278,z70:=Tryz.sizeOf278,v70:=Tryz.zeroValue278,t76:=Tryz.underlying294,a76:=Tryz.isAgg294,z76:=Tryz.sizeOf294,v76:=Tryz.zeroValue294,t77:=Tryz.underlying107,a77:=Tryz.isAgg107,z77:=Tryz.sizeOf107,v77:=Tryz.zeroValue107}
def qQb (p:qA):List Value:=[.int .i64 p.X,.int .i64 p.Y]
theorem slices_SortFunc_SPoint_swo :Go.Sort.SWO (ltOf cmpPt) where
 irrefl x:=by unfold ltOf cmpPt;simp
 trans x y z h1 h2:=by
  rw[ltPt] at*;simp only[decide_eq_true_eq] at*;omega
 ntrans x y z h1 h2:=by
  rw[ltPt] at*;simp only[decide_eq_false_iff_not] at*;omega
theorem slices_SortFunc_SPoint_anti (x y:qA) (h1:ltOf cmpPt x y=false) (h2:ltOf cmpPt y x=false):x=y:=by
 rw[ltPt] at*;simp only[decide_eq_false_iff_not] at*;cases x;cases y;simp only[qA.mk.injEq] at*;omega
theorem qEZ (a1:List qA) (r:List qA) (hm:QU a1=some r):CtX Tryz.prog globs 228 1 1 [.one (.own 0 0 2 a1.length),.one (.fn 229 [])] [(0,ro 0 93 2 a1.length (rf qB a1))] (LC a1 r) (NV a1 r):=by
 unfold QU at hm;obtain⟨g1,hm⟩:=qI hm;obtain rfl:=kD hm;have hs:=q1i g1;have eg:∀args w,(callFunc 229 args).run Tryz.prog w= .ok (.enter 229 args) w:=enters_of Tryz.func229 (by kernel_rfl) rfl;exact q2J (gl:=globs) slices_SortFunc_SPoint_lay 2 Tryz.isAgg93 Tryz.sizeOf93 qQb (λ_=>rfl) (λx v hv=>by simp[qQb] at hv;rcases hv with rfl|rfl<;>rfl) poly_Hull_1 cmpPt poly_Hull_1_eq slices_SortFunc_SPoint_swo slices_SortFunc_SPoint_anti 229 93 eg (λx y=>qQO x y _ (poly_Hull_1_eq x y)) a1 hs.1 hs.2
open Go.Proofs Go.Proofs.Tryz
def WQ (a1:List qA) (r:(List qA)×(List qA)):V:=vo 0 0 2 r.2.length
def WP (a1:List qA) (r:(List qA)×(List qA)):List (Nat×(Nat×O)):=[(0,ro 0 93 2 r.2.length (rf qB r.2))]
def DM (l3:List qA) (x4:Int) (x12:Int) (l19:List qA) (l19n:Nat) (x20:Int):St:=
 ⟨[(0,vo 0 0 2 l19n),(3,vi x20),(4,vc (.sub 0 0 2 x4.toNat (l3.length-x4.toNat))),(5,vi x12)],[(0,ro 0 93 2 l19n (rf qB l19))]⟩
def XA (l3:List qA) (x4:Int) (l10:List qA) (l10n:Nat) (x11:Int) (x12:Int):St:=
 ⟨[(0,vo 0 0 2 l10n),(3,vi x11),(4,vc (.sub 0 0 2 x4.toNat (l3.length-x4.toNat))),(5,vi x12)],[(0,ro 0 93 2 l10n (rf qB l10))]⟩
def DE (l21:List qA) (x22:Int):St:=
 ⟨[(0,vo 0 0 2 l21.length),(3,vi x22)],[(0,ro 0 93 2 l21.length (rf qB l21))]⟩
def YR (l3:List qA) (l3n:Nat) (x4:Int):St:=
 ⟨[(0,vo 0 0 2 l3n),(3,vi x4)],[(0,ro 0 93 2 l3n (rf qB l3))]⟩
def DL (l27:List qA):St:=
 ⟨[(0,vo 0 0 2 l27.length)],[(0,ro 0 93 2 l27.length (rf qB l27))]⟩
theorem qCZ (E:Env 1) (l3:List qA) (x4:Int):∀(n:Nat) (l10:List qA) (l10n:Nat) (x11:Int) (x12:Int) (res:(List qA)×Int),l10.length=l10n->wO l3 x4 n l10 x11 x12=some res->HL (kx E 61 1) (nd f232 119380) (zF 2 (λo=>DE o.1 o.2) res) n (XA l3 x4 l10 l10n x11 x12):=by
 intro n
 induction n with
 |zero=>
  intro l10 l10n x11 x12 res hl0 hm;cases hm
 |succ n ih=>
  intro l10 l10n x11 x12 res hl0 hm;subst hl0;refine qR (q_sq ?_);refine s_va 1 [(32,vb (decide (x12<(((l3.length-x4.toNat):Nat):Int))))] (q_cq hm (λhm=>?_) (λhm=>?_))
  ·refine q_sk (q_jn (ι:=(List qA)×Nat×Int) (λp=>DM l3 x4 x12 p.1 p.2.1 p.2.2) (λp=>p.1.length=p.2.1/\ZW x12 (wO l3 x4 n) p.1 p.2.2=some res) ?_ ?_)
   ·rintro⟨l19,l19n,x20⟩ ⟨el19,hm⟩;replace el19:l19.length=l19n:=el19;subst el19;show H _ (DM l3 x4 x12 l19 l19.length x20) _ _;exact q_vv [] 1 [5] [(5,vi (w64 (x12+1)))] (q_hl (XA l3 x4 l19 l19.length x20 (w64 (x12+1))) (ih l19 l19.length x20 (w64 (x12+1)) _ rfl hm))
   ·refine q_bk 3 ?_;obtain⟨g14,hm⟩:=qI hm;obtain⟨g15,hm⟩:=qI hm;obtain⟨g16,hm⟩:=qI hm;refine s_du [qi 2 g14,qd 3 dN (uc (uQ (qW (zD g14)) x4.toNat) (kJ g15)),qi 7 g16,qd 8 dN (uc (uQ (qW (zD g16)) x4.toNat) (kJ g15))] [0,0,3,7,0,0,32,112,240,511] 1 [32] [(44,vb (!((((l10.getD (x4.toNat+x12.toNat) dd).X)==((l10.getD (x4.toNat+((w64 (x12-1)).toNat)) dd).X))&&((((l10.getD (x4.toNat+x12.toNat) dd).Y)==((l10.getD (x4.toNat+((w64 (x12-1)).toNat)) dd).Y))&&true))))] [] [] (q_cq hm (λhm=>?_) (λhm=>?_))
    ·obtain⟨g18,hm⟩:=qI hm;refine s_vu [qi 4 g14,qd 5 dN (uc (uQ (qW (zD g14)) x4.toNat) (kJ g15)),qi 6 g18,qd 7 (drw 0 0 (rf qB (l10.set x11.toNat (l10.getD (x4.toNat+x12.toNat) dd)))) (stP qB dd (l10.getD (x4.toNat+x12.toNat) dd) l10 l10.length x11.toNat 0 [ci ((l10.getD (x4.toNat+x12.toNat) dd).X),ci ((l10.getD (x4.toNat+x12.toNat) dd).Y)] rfl (qW (zD g18)) rfl)] 1 [44] [] [0] [(0,ro 0 93 2 l10.length (rf qB (l10.set x11.toNat (l10.getD (x4.toNat+x12.toNat) dd))))] (q_vv [] 1 [3] [(3,vi (w64 (x11+1)))] ?_)
     exact q_J ((l10.set x11.toNat (l10.getD (x4.toNat+x12.toNat) dd)),l10.length,w64 (x11+1)) ⟨(jI rfl),hm⟩
    ·exact q_sk (q_J (l10,l10.length,x11) ⟨rfl,hm⟩)
  ·refine q_ex 2 ?_;obtain rfl:=oi hm;exact q_l0
theorem qDt (E:Env 1) (a1:List qA):∀(n:Nat) (l3:List qA) (l3n:Nat) (x4:Int) (res:((List qA)×(List qA))⊕(List qA)),l3.length=l3n->jD n l3 x4=some res->HL (kx E 61 1) (nd f232 116) (wC 0 DL (λv st=>RetQ Tryz.prog f232 (WQ a1 v) (WP a1 v) .ret st) res) n (YR l3 l3n x4):=by
 intro n
 induction n with
 |zero=>
  intro l3 l3n x4 res hl0 hm;cases hm
 |succ n ih=>
  intro l3 l3n x4 res hl0 hm;subst hl0;refine qR (q_sq ?_);refine s_va 1 [(13,vb (decide (x4<(l3.length:Int))))] (q_cq hm (λhm=>?_) (λhm=>?_))
  ·refine q_sk (q_sq ?_);refine q_bk 1 ?_;obtain⟨g6,hm⟩:=qI hm;obtain⟨g7,hm⟩:=qI hm;refine s_du [qi 2 g6,qd 3 dN (qW (zD g6)),qi 7 g7,qd 8 dN (qW (zD g7))] [0,0,3,7,0,0,32,112,240,511] 1 [13] [(25,vb ((((l3.getD x4.toNat dd).X)==((l3.getD ((w64 (x4-1)).toNat) dd).X))&&((((l3.getD x4.toNat dd).Y)==((l3.getD ((w64 (x4-1)).toNat) dd).Y))&&true)))] [] [] (q_cq hm (λhm=>?_) (λhm=>?_))
   ·obtain⟨g9,hm⟩:=qI hm;refine s_vv [qd 2 dN (And.intro (zG g9).1 (zG g9).2.1)] 1 [25] [(4,vc (.sub 0 0 2 x4.toNat (l3.length-x4.toNat)))] (q_sq ?_);refine s_va 1 [(5,vi 1)] ?_;obtain⟨o23,h24,hm⟩:=qC hm;refine zB (nd f232 119380) 2 (by kernel_rfl) FUEL (λo=>DE o.1 o.2) o23 (q_hl (XA l3 x4 l3 l3.length x4 1) (qCZ E l3 x4 FUEL l3 l3.length x4 1 o23 rfl h24)) ?_;obtain⟨g25,hm⟩:=qI hm
    refine s_wu [qd 2 dN (And.intro (zG g25).1 (zG g25).2.1),qd 3 (drw 0 0 (rf qB o23.1)) (show o23.2.toNat+(o23.1.length-o23.2.toNat)<=o23.1.length by have:=(zG g25);omega)] [.row 0 o23.2.toNat (rf qB (o23.1.take o23.2.toNat))] (o1 (tkP qB dd o23.1 o23.2.toNat o23.2.toNat (kd _))) 1 [] [] [0] [(0,ro 0 93 2 o23.2.toNat (rf qB (o23.1.take o23.2.toNat)))] ?_;obtain⟨g26,hm⟩:=qI hm
    refine s_vv [qd 2 dN (And.intro (zG g26).2.1 (zG g26).2.2)] 1 [0,3] [(2,vo 0 0 2 o23.2.toNat)] (q_fn [.len 0 ((o23.1.take o23.2.toNat).length)] ⟨[(2,vo 0 0 2 ((o23.1.take o23.2.toNat).length))],[(0,ro 0 93 2 ((o23.1.take o23.2.toNat).length) (rf qB (o23.1.take o23.2.toNat)))]⟩ (o1 (And.intro (Eq.symm (show(o23.1.take o23.2.toNat).length=o23.2.toNat from(jE rfl (ur (gh _ _) (show o23.2.toNat+(o23.1.length-o23.2.toNat)<=o23.1.length by have:=(zG g25);omega))))) (Eq.symm (show(o23.1.take o23.2.toNat).length=o23.2.toNat from(jE rfl (ur (gh _ _) (show o23.2.toNat+(o23.1.length-o23.2.toNat)<=o23.1.length by have:=(zG g25);omega))))))) ?_)
    obtain rfl:=oi hm;refine q_rt (zJ ((o23.1.take o23.2.toNat),(o23.1.take o23.2.toNat)) ?_);exact q_rm
   ·refine q_sk (q_vv [] 1 [3,25] [(3,vi (w64 (x4+1)))] ?_);exact q_hl (YR l3 l3.length (w64 (x4+1))) (ih l3 l3.length (w64 (x4+1)) _ rfl hm)
  ·refine q_ex 0 ?_;obtain rfl:=oi hm;exact q_l1 l3
theorem qFQ (a1:List qA) (r:(List qA)×(List qA)) (hm:yK a1=some r):CtX Tryz.prog globs 232 1 1 [.one (.own 0 0 2 a1.length)] [(0,ro 0 93 2 a1.length (rf qB a1))] (WQ a1 r) (WP a1 r):=by
 unfold yK at hm;refine q_E f232 61 λE=>?_;refine s_vn [] 1 ⟨[(0,vo 0 0 2 a1.length)],[(0,ro 0 93 2 a1.length (rf qB a1))]⟩ (q_sq ?_);refine s_va 1 [(8,vb (decide ((a1.length:Int)<2)))] (q_cq hm (λhm=>?_) (λhm=>?_))
 ·refine s_vv [] 1 [0,8] [(2,vo 0 0 2 a1.length)] ?_;obtain rfl:=oi hm;exact q_rt q_rm
 ·refine q_sk (q_sq ?_);refine s_vv [] 1 [8] [(3,vi 1)] ?_;obtain⟨u30,h29,hm⟩:=qC hm;refine zQ (nd f232 116) 0 (by kernel_rfl) FUEL DL (λv st=>RetQ Tryz.prog f232 (WQ a1 v) (WP a1 v) .ret st) u30 (q_hl (YR a1 a1.length 1) (qDt E a1 FUEL a1 a1.length 1 u30 rfl h29)) ?_ ?_
  ·rintro v31 rfl st hr;obtain rfl:=oi hm;exact hr
  ·rintro o28 rfl;replace hm:_=some r:=hm;refine s_vv [] 1 [0] [(2,vo 0 0 2 o28.length)] ?_;obtain rfl:=oi hm;exact q_rt q_rm
def qWG (r:Int):V:=vi r
def qXI (r:Int):List (Nat×(Nat×O)):=[]
theorem qUS (a1:qA) (a2:qA) (a3:qA) (r:Int) (hm:CQ a1 a2 a3=some r):CtX Tryz.prog globs 255 0 0 [.agg (qB a1),.agg (qB a2),.agg (qB a3)] [] (qWG r) (qXI r):=by
 unfold CQ at hm;refine q_E f255 30 λE=>?_;refine s_vn [] 0 ⟨[(3,vp 0 0),(4,vp 1 0),(5,vp 2 0)],[(0,bx 93 (qB a1)),(1,bx 93 (qB a2)),(2,bx 93 (qB a3))]⟩ (s_vn [] 3 ⟨[(6,vi (w64 ((w64 ((w64 (a2.X-a1.X))*(w64 (a3.Y-a1.Y))))-(w64 ((w64 (a3.X-a1.X))*(w64 (a2.Y-a1.Y)))))))],[]⟩ ?_);obtain rfl:=oi hm;exact q_rt q_rm
def qFZ (r:(List qA)):V:=vo 0 0 2 r.length
def NI (r:(List qA)):List (Nat×(Nat×O)):=[(0,ro 0 93 2 r.length (rf qB r))]
theorem qK3 (r:(List qA)):wQ (NI r):=by
 intro i k o h;unfold NI at h;rw[look_cons] at h;split at h
 ·cases h;exact λ_ _=>rfl
 ·cases h
def TI (a1:List qA) (x3:Int):St:=
 ⟨[(5,vp 1 0),(6,vc (tl qB dd a1)),(7,vi (a1.length:Int)),(8,vi x3)],[(1,bx 93 (qB (a1.getD x3.toNat dd)))]⟩
def qP1 (a1:List qA) (x3:Int) (l6:List qA) (x12:Bool):St:=
 (TI a1 x3).up [] [(3,vo 0 0 2 l6.length),(31,vb x12)] [] [(0,ro 0 93 2 l6.length (rf qB l6))]
def CR (a1:List qA) (x3:Int) (l6:List qA) (l6n:Nat):St:=
 (TI a1 x3).up [] [(3,vo 0 0 2 l6n)] [] [(0,ro 0 93 2 l6n (rf qB l6))]
def qGJ (a1:List qA) (x3:Int) (l15:List qA):St:=
 (TI a1 x3).up [] [(3,vo 0 0 2 l15.length)] [] [(0,ro 0 93 2 l15.length (rf qB l15))]
def qAy (a1:List qA) (l2:List qA) (l2n:Nat) (x3:Int):St:=
 (TI a1 x3).up [5] [(3,vo 0 0 2 l2n)] [1] [(0,ro 0 93 2 l2n (rf qB l2))]
def qGV (l19:List qA):St:=
 ⟨[(3,vo 0 0 2 l19.length)],[(0,ro 0 93 2 l19.length (rf qB l19))]⟩
theorem qOA (E:Env 0) (a1:List qA) (x3:Int):∀(n:Nat) (l6:List qA) (l6n:Nat) (res:(List qA)),l6.length=l6n->YY a1 x3 n l6=some res->HL (kx E 47 0) (nd f233 29896) (zF 2 (λo=>qGJ a1 x3 o) res) n (CR a1 x3 l6 l6n):=by
 intro n
 induction n with
 |zero=>
  intro l6 l6n res hl0 hm;cases hm
 |succ n ih=>
  intro l6 l6n res hl0 hm;subst hl0;refine qR (q_sq ?_);refine q_jn (qP1 a1 x3 l6) (λp=>AG l6 (YY a1 x3 n) p=some res) ?_ ?_
  ·rintro x12 hm;refine q_cq hm (λhm=>?_) (λhm=>?_)
   ·refine q_sk (q_bk 3 ?_);obtain⟨g14,hm⟩:=qI hm
    exact q_wu [qd 4 dN (And.intro (zG g14).2.1 (zG g14).2.2)] [.row 0 ((w64 ((l6.length:Int)-1)).toNat) (rf qB (l6.take ((w64 ((l6.length:Int)-1)).toNat)))] (o1 (tkP qB dd l6 l6.length ((w64 ((l6.length:Int)-1)).toNat) (show(w64 ((l6.length:Int)-1)).toNat<=l6.length by have:=(zG g14);omega))) 2 [3,31] [(3,vo 0 0 2 ((w64 ((l6.length:Int)-1)).toNat))] [0] [(0,ro 0 93 2 ((w64 ((l6.length:Int)-1)).toNat) (rf qB (l6.take ((w64 ((l6.length:Int)-1)).toNat))))] (q_hl (CR a1 x3 (l6.take ((w64 ((l6.length:Int)-1)).toNat)) ((w64 ((l6.length:Int)-1)).toNat)) (ih (l6.take ((w64 ((l6.length:Int)-1)).toNat)) ((w64 ((l6.length:Int)-1)).toNat) _ (jE rfl (show(w64 ((l6.length:Int)-1)).toNat<=l6.length by have:=(zG g14);omega)) hm))
   ·refine q_ex 2 ?_;obtain rfl:=oi hm;exact q_l0
  ·rcases bif_c hm with⟨b7,hm⟩|⟨b7,hm⟩
   ·obtain⟨g8,hm⟩:=qI hm;obtain⟨g9,hm⟩:=qI hm;obtain⟨v10,h11,hm⟩:=qC hm
    exact q_du [qf 3 b7,qi 8 g8,qd 9 dN (qW (zD g8)),qi 14 g9,qd 15 dN (qW (zD g9)),qk 17 [15,21,27,28] 2 ⟨[(15,vb true),(21,va [ci ((l6.getD ((w64 ((l6.length:Int)-2)).toNat) dd).X),ci ((l6.getD ((w64 ((l6.length:Int)-2)).toNat) dd).Y)]),(27,va [ci ((l6.getD ((w64 ((l6.length:Int)-1)).toNat) dd).X),ci ((l6.getD ((w64 ((l6.length:Int)-1)).toNat) dd).Y)]),(28,va [ci ((a1.getD x3.toNat dd).X),ci ((a1.getD x3.toNat dd).Y)])],[]⟩ (qUS (l6.getD ((w64 ((l6.length:Int)-2)).toNat) dd) (l6.getD ((w64 ((l6.length:Int)-1)).toNat) dd) (a1.getD x3.toNat dd) v10 h11)] [0,1,3,7,15,15,47,111,255,511,15,15,2063,6159,15375,31759,15,131071,262143,524287] 2 [] [(31,vb (decide (v10<=0)))] [] [] (q_J (decide (v10<=0)) hm)
   ·exact q_du [qf 3 b7] [0,1,3,7,15,15,47,111,255,511,15,15,2063,6159,15375,31759,15,131071,262143,524287] 2 [] [(31,vb false)] [] [] (q_J (false) hm)
theorem qOd (E:Env 0) (a1:List qA):∀(n:Nat) (l2:List qA) (l2n:Nat) (x3:Int) (res:(List qA)),l2.length=l2n->GW a1 n l2 x3=some res->HL (kx E 47 0) (nd f233 116) (zF 0 qGV res) n (qAy a1 l2 l2n x3):=by
 intro n
 induction n with
 |zero=>
  intro l2 l2n x3 res hl0 hm;cases hm
 |succ n ih=>
  intro l2 l2n x3 res hl0 hm;subst hl0;refine qR (s_va 1 [(9,vb (decide (x3<(a1.length:Int))))] ?_);refine q_sq (q_cq hm (λhm=>?_) (λhm=>?_))
  ·refine q_sk (q_sq ?_);refine q_bk 1 ?_;obtain⟨g5,hm⟩:=qI hm;refine s_vu [qi 0 g5] 1 [9] [(5,vp 1 0)] [] [(1,bx 93 (qB (a1.getD x3.toNat dd)))] (q_sq ?_);obtain⟨o16,h17,hm⟩:=qC hm;refine zB (nd f233 29896) 2 (by kernel_rfl) FUEL (λo=>qGJ a1 x3 o) o16 (q_hl (CR a1 x3 l2 l2.length) (qOA E a1 x3 FUEL l2 l2.length o16 rfl h17)) ?_;obtain⟨g18,hm⟩:=qI hm
   refine q_vu [qd 2 (drw 2 0 (rf qB [(a1.getD x3.toNat dd)])) (litP qB dd 2 (λ_=>rfl) ([(a1.getD x3.toNat dd)]:List qA) 1 rfl),qd 3 (drw 0 1 (rf qB (o16++[(a1.getD x3.toNat dd)]))) (apP qB dd o16 ([(a1.getD x3.toNat dd)]:List qA) o16.length 1 2 16 (1<=1) (kd _) rfl rfl (λ_=>rfl) (zN g18))] 2 [3,5] [(3,vo 0 1 2 (o16.length+1))] [0,1] [(0,ro 1 93 2 (o16.length+1) (rf qB (o16++[(a1.getD x3.toNat dd)])))] (q_vv [] 3 [8] [(8,vi (w64 (x3+1)))] ?_)
   exact q_hl (qAy a1 (o16++[(a1.getD x3.toNat dd)]) (o16.length+1) (w64 (x3+1))) (ih (o16++[(a1.getD x3.toNat dd)]) (o16.length+1) (w64 (x3+1)) _ (zH rfl rfl) hm)
  ·refine q_ex 0 ?_;obtain rfl:=oi hm;exact q_l0
theorem qKA (a1:List qA) (r:(List qA)) (hm:MV a1=some r):CtX Tryz.prog globs 233 0 0 [.one (tl qB dd a1)] [] (qFZ r) (NI r):=by
 unfold MV at hm;refine q_E f233 47 λE=>?_;refine s_vn [] 0 ⟨[(0,vc (tl qB dd a1))],[]⟩ (s_va 0 [(3,vc (.emp))] ?_);refine q_sq (s_vv [] 0 [0] [(6,vc (tl qB dd a1)),(7,vi (a1.length:Int)),(8,vi 0)] ?_);refine q_fo 3 0 93 2 qB ?_;obtain⟨o20,h21,hm⟩:=qC hm;refine zB (nd f233 116) 0 (by kernel_rfl) FUEL qGV o20 (q_hl (qAy a1 ([]:List qA) 0 0) (qOd E a1 FUEL ([]:List qA) 0 0 o20 rfl h21)) ?_;obtain⟨g22,hm⟩:=qI hm
 refine s_wn [qd 4 dN (And.intro (zG g22).2.1 (zG g22).2.2)] [.row 0 ((w64 ((o20.length:Int)-1)).toNat) (rf qB (o20.take ((w64 ((o20.length:Int)-1)).toNat)))] (o1 (tkP qB dd o20 o20.length ((w64 ((o20.length:Int)-1)).toNat) (show(w64 ((o20.length:Int)-1)).toNat<=o20.length by have:=(zG g22);omega))) 1 ⟨[(2,vo 0 0 2 ((w64 ((o20.length:Int)-1)).toNat))],[(0,ro 0 93 2 ((w64 ((o20.length:Int)-1)).toNat) (rf qB (o20.take ((w64 ((o20.length:Int)-1)).toNat))))]⟩ ?_
 refine q_fn [.len 0 ((o20.take ((w64 ((o20.length:Int)-1)).toNat)).length)] ⟨[(2,vo 0 0 2 ((o20.take ((w64 ((o20.length:Int)-1)).toNat)).length))],[(0,ro 0 93 2 ((o20.take ((w64 ((o20.length:Int)-1)).toNat)).length) (rf qB (o20.take ((w64 ((o20.length:Int)-1)).toNat))))]⟩ (o1 (And.intro (Eq.symm (show(o20.take ((w64 ((o20.length:Int)-1)).toNat)).length=(w64 ((o20.length:Int)-1)).toNat from(jE rfl (show(w64 ((o20.length:Int)-1)).toNat<=o20.length by have:=(zG g22);omega)))) (Eq.symm (show(o20.take ((w64 ((o20.length:Int)-1)).toNat)).length=(w64 ((o20.length:Int)-1)).toNat from(jE rfl (show(w64 ((o20.length:Int)-1)).toNat<=o20.length by have:=(zG g22);omega)))))) ?_
 obtain rfl:=oi hm;exact q_rt q_rm
open Go.Proofs Go.Proofs.Tryz
def HX (a1:List qA) (r:(List qA)):V:= .undef
def HU (a1:List qA) (r:(List qA)):List (Nat×(Nat×O)):=[(0,ro 0 93 2 r.length (rf qB r))]
def YV (l2:List qA) (l2n:Nat) (x3:Int) (x4:Int):St:=
 ⟨[(0,vo 0 0 2 l2n),(2,vi x3),(3,vi x4)],[(0,ro 0 93 2 l2n (rf qB l2))]⟩
def GX (l8:List qA):St:=
 ⟨[],[(0,ro 0 93 2 l8.length (rf qB l8))]⟩
theorem qC2 (E:Env 1):∀(n:Nat) (l2:List qA) (l2n:Nat) (x3:Int) (x4:Int) (res:(List qA)),l2.length=l2n->yR n l2 x3 x4=some res->HL (kx E 28 1) (nd f234 12) (zF 0 GX res) n (YV l2 l2n x3 x4):=by
 intro n
 induction n with
 |zero=>
  intro l2 l2n x3 x4 res hl0 hm;cases hm
 |succ n ih=>
  intro l2 l2n x3 x4 res hl0 hm;subst hl0;refine qR (q_sq ?_);refine s_va 1 [(9,vb (decide (x3<x4)))] (q_cq hm (λhm=>?_) (λhm=>?_))
  ·refine q_sk (q_sq ?_);refine q_bk 1 ?_;obtain⟨g6,hm⟩:=qI hm;obtain⟨g7,hm⟩:=qI hm
   refine q_du [qi 6 g6,qd 7 dN (qW (zD g6)),qi 10 g7,qd 11 dN (qW (zD g7)),qi 12 g7,qd 13 (drw 0 0 (rf qB (l2.set x3.toNat (l2.getD x4.toNat dd)))) (stP qB dd (l2.getD x4.toNat dd) l2 l2.length x3.toNat 0 [ci ((l2.getD x4.toNat dd).X),ci ((l2.getD x4.toNat dd).Y)] rfl (qW (zD g7)) rfl),qi 14 g6,qd 15 (drw 0 0 (rf qB ((l2.set x3.toNat (l2.getD x4.toNat dd)).set x4.toNat (l2.getD x3.toNat dd)))) (stP qB dd (l2.getD x3.toNat dd) (l2.set x3.toNat (l2.getD x4.toNat dd)) l2.length x4.toNat 0 [ci ((l2.getD x3.toNat dd).X),ci ((l2.getD x3.toNat dd).Y)] (jI rfl) (qW (zD g6)) rfl)] [0,0,0,0,0,0,48,112,0,0,768,1792,4083,8179,16383,32767] 1 [9] [] [0] [(0,ro 0 93 2 l2.length (rf qB ((l2.set x3.toNat (l2.getD x4.toNat dd)).set x4.toNat (l2.getD x3.toNat dd))))] ?_
   exact q_vv [] 1 [2,3] [(2,vi (w64 (x3+1))),(3,vi (w64 (x4-1)))] (q_hl (YV ((l2.set x3.toNat (l2.getD x4.toNat dd)).set x4.toNat (l2.getD x3.toNat dd)) l2.length (w64 (x3+1)) (w64 (x4-1))) (ih ((l2.set x3.toNat (l2.getD x4.toNat dd)).set x4.toNat (l2.getD x3.toNat dd)) l2.length (w64 (x3+1)) (w64 (x4-1)) _ (jI (jI rfl)) hm))
  ·refine q_ex 0 ?_;obtain rfl:=oi hm;exact q_l0
theorem qF4 (a1:List qA) (r:(List qA)) (hm:ZM a1=some r):CtX Tryz.prog globs 234 1 1 [.one (.own 0 0 2 a1.length)] [(0,ro 0 93 2 a1.length (rf qB a1))] (HX a1 r) (HU a1 r):=by
 unfold ZM at hm;refine q_E f234 28 λE=>?_;refine s_vn [] 1 ⟨[(0,vo 0 0 2 a1.length),(2,vi 0),(3,vi (w64 ((a1.length:Int)-1)))],[(0,ro 0 93 2 a1.length (rf qB a1))]⟩ ?_;obtain⟨o9,h10,hm⟩:=qC hm;refine zB (nd f234 12) 0 (by kernel_rfl) FUEL GX o9 (q_hl (YV a1 a1.length 0 (w64 ((a1.length:Int)-1))) (qC2 E FUEL a1 a1.length 0 (w64 ((a1.length:Int)-1)) o9 rfl h10)) ?_;obtain rfl:=oi hm;exact q_rm
def qYx (r:(List qA)):V:=vo 0 0 2 r.length
def qYy (r:(List qA)):List (Nat×(Nat×O)):=[(0,ro 0 93 2 r.length (rf qB r))]
def qSU (a1:List qA) (x6:Bool):St:=
 ⟨[(0,vc (tl qB dd a1)),(17,vb x6)],[]⟩
theorem qXw (a1:List qA) (r:(List qA)) (hm:qDi a1=some r):CtX Tryz.prog globs 201 0 0 [.one (tl qB dd a1)] [] (qYx r) (qYy r):=by
 unfold qDi at hm;refine q_E f201 36 λE=>?_;refine s_vn [] 0 ⟨[(0,vc (tl qB dd a1))],[]⟩ (q_sq ?_);refine q_jn (qSU a1) (λp=>FA a1 p=some r) ?_ ?_
 ·rintro x6 hm;refine q_cq hm (λhm=>?_) (λhm=>?_)
  ·refine s_vn [] 0 ⟨[(2,vc (.emp))],[]⟩ (q_fn [.own 2 0 93 2 (rf qB [])] ⟨[(2,vo 0 0 2 0)],[(0,ro 0 93 2 0 (rf qB []))]⟩ o0 ?_);refine q_fn [.len 0 (([]:List qA).length)] ⟨[(2,vo 0 0 2 (([]:List qA).length))],[(0,ro 0 93 2 (([]:List qA).length) (rf qB []))]⟩ (o1 (And.intro (show 0=([]:List qA).length from rfl) (show 0=([]:List qA).length from rfl))) ?_;obtain rfl:=oi hm;exact q_rt q_rm
  ·refine q_sk ?_;obtain⟨v8,h9,hm⟩:=qC hm;refine s_vn [qc 1 [18] 0 (qH0 a1 v8 h9)] 0 ⟨[(3,vo 0 0 2 v8.length)],[(0,ro 0 93 2 v8.length (rf qB v8))]⟩ ?_;obtain⟨v10,h11,hm⟩:=qC hm;obtain⟨g12,hm⟩:=qI hm
   refine s_wu [qd 1 (dex (cen [(0,0)] [0] 0 1 (LC v8 v10) (NV v8 v10) [20] [0])) (zW (K:=(kx E 36 0)) ⟨[(20,vo 0 0 2 v8.length)],[(0,ro 0 93 2 v8.length (rf qB v8))]⟩ (opAt (rg f201 30) 1) [(0,0)] [0] 0 o0 rfl (qEZ v8 v10 h11) (.inl rfl) (by kernel_rfl))] [.len 0 v8.length] (o1 (And.intro (And.intro (Eq.refl v8.length) (Eq.refl v8.length)) (And.intro (EZ g12) (Eq.refl v8.length)))) 1 [] [] [0] [(0,ro 0 93 2 v8.length (rf qB v10))] ?_;obtain⟨v13,h14,hm⟩:=qC hm
   refine s_vn [qd 1 (dpr [.len 0 v10.length] (dex (cen [(0,0)] [0] 0 1 (WQ v10 v13) (WP v10 v13) [22] [0]))) (And.intro (And.intro (Eq.symm (show v10.length=v8.length from(EZ g12))) (Eq.symm (show v10.length=v8.length from(EZ g12)))) (Eq.symm (show v10.length=v8.length from(EZ g12)))),qd 1 dN (zW (K:=(kx E 36 0)) ⟨[(22,vo 0 0 2 v10.length)],[(0,ro 0 93 2 v10.length (rf qB v10))]⟩ (opAt (rg f201 62) 1) [(0,0)] [0] 0 o0 rfl (qFQ v10 v13 h14) (.inl rfl) (by kernel_rfl))] 1 ⟨[(3,vo 0 0 2 v13.2.length)],[(0,ro 0 93 2 v13.2.length (rf qB v13.2))]⟩ ?_;obtain⟨v15,h16,hm⟩:=qC hm
   refine s_vu [qd 1 (dex (cen [] [] 1 0 (qFZ v15) (NI v15) [24] [0])) (zW (K:=(kx E 36 0)) (b:=false) ⟨[(24,vo 0 0 2 v13.2.length)],[(0,ro 0 93 2 v13.2.length (rf qB v13.2))]⟩ (opAt (rg f201 126) 1) [] [] 1 (o1 (kd v13.2.length)) rfl (qKA v13.2 v15 h16) (.inr ⟨(by kernel_rfl),qK3 v15⟩) (by kernel_rfl))] 1 [] [(4,vo 1 0 2 v15.length)] [] [(1,ro 0 93 2 v15.length (rf qB v15))] ?_;obtain⟨v17,h18,hm⟩:=qC hm;obtain⟨g19,hm⟩:=qI hm
   refine s_wu [qd 1 (dex (cen [(0,0)] [0] 1 1 (HX v13.2 v17) (HU v13.2 v17) [26] [0])) (zW (K:=(kx E 36 0)) ⟨[(26,vo 0 0 2 v13.2.length)],[(0,ro 0 93 2 v13.2.length (rf qB v13.2))]⟩ (opAt (rg f201 254) 1) [(0,0)] [0] 1 o0 rfl (qF4 v13.2 v17 h18) (.inl rfl) (by kernel_rfl))] [.len 0 v13.2.length] (o1 (And.intro (And.intro (Eq.refl v13.2.length) (Eq.refl v13.2.length)) (And.intro (EZ g19) (Eq.refl v13.2.length)))) 2 [] [] [0] [(0,ro 0 93 2 v13.2.length (rf qB v17))] ?_;obtain⟨v20,h21,hm⟩:=qC hm;obtain⟨g22,hm⟩:=qI hm
   refine s_vn [qd 2 (dex (cen [] [] 2 0 (qFZ v20) (NI v20) [29] [0])) (zW (K:=(kx E 36 0)) (xs':=[.one (.lst v13.2.length (rf qB v17))]) (b:=false) ⟨[(29,vo 0 0 2 v13.2.length)],[(0,ro 0 93 2 v13.2.length (rf qB v17))]⟩ (opAt (rg f201 510) 2) [] [] 2 (o1 (kd v13.2.length)) (by simp only[tl,rf,show v17.length=v13.2.length from(EZ g19)]) (qKA v17 v20 h21) (.inr ⟨(by kernel_rfl),qK3 v20⟩) (by kernel_rfl)),qd 3 (drw 1 1 (rf qB (v15++v20))) (apP qB dd v15 v20 v15.length v20.length 2 16 (v20.length<=v20.length) (kd _) rfl rfl (λ_=>rfl) (zN g22))] 2 ⟨[(4,vo 1 1 2 (v15.length+v20.length))],[(1,ro 1 93 2 (v15.length+v20.length) (rf qB (v15++v20)))]⟩ (q_sq ?_)
   refine s_va 3 [(34,vb (decide ((((v15.length+v20.length):Nat):Int)<3)))] (q_cq hm (λhm=>?_) (λhm=>?_))
   ·refine s_vn [] 3 ⟨[(2,vc (.emp))],[]⟩ (q_fn [.own 2 3 93 2 (rf qB [])] ⟨[(2,vo 3 0 2 0)],[(3,ro 0 93 2 0 (rf qB []))]⟩ o0 ?_);refine q_fn [.len 3 (([]:List qA).length)] ⟨[(2,vo 3 0 2 (([]:List qA).length))],[(3,ro 0 93 2 (([]:List qA).length) (rf qB []))]⟩ (o1 (And.intro (show 0=([]:List qA).length from rfl) (show 0=([]:List qA).length from rfl))) ?_;obtain rfl:=oi hm;exact q_sw 3 0 (q_rt q_rm)
   ·refine q_sk (s_vv [] 3 [4,34] [(2,vo 1 1 2 (v15.length+v20.length))] ?_);refine q_fn [.len 1 ((v15++v20).length)] ⟨[(2,vo 1 1 2 ((v15++v20).length))],[(1,ro 1 93 2 ((v15++v20).length) (rf qB (v15++v20)))]⟩ (o1 (And.intro (Eq.symm (show(v15++v20).length=(v15.length+v20.length) from(zH rfl rfl))) (Eq.symm (show(v15++v20).length=(v15.length+v20.length) from(zH rfl rfl))))) ?_;obtain rfl:=oi hm;exact q_sw 1 0 (q_rt q_rm)
 ·rcases bif_c hm with⟨b2,hm⟩|⟨b2,hm⟩
  ·exact q_vv [qf 3 b2] 0 [] [(17,vb true)] (q_J (true) hm)
  ·rcases bif_c hm with⟨b3,hm⟩|⟨b3,hm⟩
   ·exact q_vv [qf 3 b2,qf 8 b3] 0 [] [(17,vb true)] (q_J (true) hm)
   ·obtain⟨v4,h5,hm⟩:=qC hm;exact q_vv [qf 3 b2,qf 8 b3,qk 10 [13,14] 0 ⟨[(13,vb false),(14,vc (tl qB dd a1))],[]⟩ (qAq a1 v4 h5)] 0 [] [(17,vb (!v4))] (q_J (!v4) hm)
end Saw
end Go.SL
