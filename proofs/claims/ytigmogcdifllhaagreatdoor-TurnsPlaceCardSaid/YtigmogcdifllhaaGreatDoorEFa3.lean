import Derived.Test.YtigmogcdifllhaaGreatDoorEBase
import Derived.Test.YtigmogcdifllhaaGreatDoorEFa2
import Derived.Test.YtigmogcdifllhaaGreatDoorYa6
import Derived.Test.YtigmogcdifllhaaGreatDoorPCmp
import Derived.Ground.SlsfProg
set_option linter.unusedVariables false
set_option linter.unusedSimpArgs false
namespace Go.SL
namespace Saw
open Go.Proofs Go.Proofs.Tryz
set_option maxHeartbeats 4000000
set_option maxRecDepth 100000
def qAM (r:Bool):V:=vb r
def qAb (r:Bool):List (Nat×(Nat×O)):=[]
def qLy (a1:List qA) (x2:Int) (x10:Bool):St:=
 ⟨[(5,vc (tl qE dd a1)),(6,vi (a1.length:Int)),(7,vi x2),(20,vb x10)],[]⟩
def LI (a1:List qA) (x2:Int):St:=
 ⟨[(5,vc (tl qE dd a1)),(6,vi (a1.length:Int)),(7,vi x2)],[]⟩
def qCW :St:=
 ⟨[],[]⟩
theorem qJZ (E:Env 0) (a1:List qA):∀(n:Nat) (x2:Int) (res:Bool⊕Unit),ZK a1 n x2=some res->HL (kx E 22 0) (nd f199 52) (wD 0 (λo=>qCW) (λv st=>RetQ Tryz.prog f199 (qAM v) (qAb v) .ret st) res) n (LI a1 x2):=by
 intro n
 induction n with
 |zero=>
  intro x2 res hm;cases hm
 |succ n ih=>
  intro x2 res hm;refine qS (s_va 0 [(8,vb (decide (x2<(a1.length:Int))))] ?_);refine q_sq (q_cq hm (λhm=>?_) (λhm=>?_))
  ·refine q_sk (q_sq ?_);refine q_bk 1 ?_;obtain⟨g4,hm⟩:=qJ hm;refine s_vu [qi 0 g4] 0 [8] [(4,vp 0 0)] [] [(0,bx 93 (qE (a1.getD x2.toNat dd)))] (q_jn (qLy a1 x2) (λp=>GU x2 (ZK a1 n) p=some res) ?_ ?_)
   ·rintro x10 hm;refine q_cq hm (λhm=>?_) (λhm=>?_)
    ·refine s_vn [] 1 ⟨[(2,vb false)],[]⟩ ?_;obtain rfl:=oi hm;refine q_rt (zJ false ?_);exact q_rm
    ·refine q_sk (q_vv [] 1 [7,20] [(7,vi (w64 (x2+1)))] ?_);exact q_hl (LI a1 (w64 (x2+1))) (ih (w64 (x2+1)) _ hm)
   ·obtain⟨v5,h6,hm⟩:=qB hm;rcases bif_c hm with⟨b7,hm⟩|⟨b7,hm⟩
    ·exact q_vu [qc 2 [12] 1 (qAW ((a1.getD x2.toNat dd).X) v5 h6),qf 4 b7] 1 [4] [(20,vb true)] [0] [] (q_J (true) hm)
    ·obtain⟨v8,h9,hm⟩:=qB hm;exact q_vu [qc 2 [12] 1 (qAW ((a1.getD x2.toNat dd).X) v5 h6),qf 4 b7,qk 7 [15,17] 1 ⟨[(15,vb false),(17,vi ((a1.getD x2.toNat dd).Y))],[]⟩ (qAW ((a1.getD x2.toNat dd).Y) v8 h9)] 1 [4] [(20,vb (!v8))] [0] [] (q_J (!v8) hm)
  ·refine q_ex 0 ?_;obtain rfl:=oi hm;exact q_l1 ()
theorem OE (a1:List qA) (r:Bool) (hm:XJ a1=some r):CtX Tryz.prog globs 199 0 0 [.one (tl qE dd a1)] [] (qAM r) (qAb r):=by
 unfold XJ at hm;refine q_E f199 22 λE=>?_;refine s_vn [] 0 ⟨[(0,vc (tl qE dd a1))],[]⟩ (q_sq ?_);refine s_vn [] 0 ⟨[(5,vc (tl qE dd a1)),(6,vi (a1.length:Int)),(7,vi 0)],[]⟩ ?_;obtain⟨u14,h13,hm⟩:=qB hm;refine zO (nd f199 52) 0 (by kernel_rfl) FUEL (λo=>qCW) (λv st=>RetQ Tryz.prog f199 (qAM v) (qAb v) .ret st) u14 (q_hl (LI a1 0) (qJZ E a1 FUEL 0 u14 h13)) ?_ ?_
 ·rintro v15 rfl st hr;obtain rfl:=oi hm;exact hr
 ·rintro o12 rfl;replace hm:_=some r:=hm;refine s_vn [] 0 ⟨[(2,vb true)],[]⟩ ?_;obtain rfl:=oi hm;exact q_rt q_rm
def qTK (r:Int):V:=vi r
def qT1 (r:Int):List (Nat×(Nat×O)):=[]
def CG (a1:List qA) (x7:Int) (x8:Int):St:=
 ⟨[(0,vc (tl qE dd a1)),(3,vi x7),(15,vc (tl qE dd a1)),(16,vi (a1.length:Int)),(17,vi x8)],[]⟩
def qFo (x13:Int):St:=
 ⟨[(3,vi x13)],[]⟩
def qOt (a1:List qA) (x5:Bool):St:=
 ⟨[(0,vc (tl qE dd a1)),(14,vb x5)],[]⟩
theorem qMD (E:Env 0) (a1:List qA):∀(n:Nat) (x7:Int) (x8:Int) (res:Int),KO a1 n x7 x8=some res->HL (kx E 45 0) (nd f200 244) (zM 0 qFo res) n (CG a1 x7 x8):=by
 intro n
 induction n with
 |zero=>
  intro x7 x8 res hm;cases hm
 |succ n ih=>
  intro x7 x8 res hm;refine qS (s_va 0 [(18,vb (decide (x8<(a1.length:Int))))] ?_);refine q_sq (q_cq hm (λhm=>?_) (λhm=>?_))
  ·refine q_sk (q_sq ?_);refine q_bk 1 ?_;obtain⟨g10,hm⟩:=qJ hm;refine s_vu [qi 1 g10] 0 [18] [(4,vi x8),(5,vp 0 0)] [] [(0,bx 93 (qE (a1.getD x8.toNat dd)))] ?_;obtain⟨g11,hm⟩:=qJ hm;obtain⟨g12,hm⟩:=qJ hm;refine s_vu [qd 5 dN (HX g11),qi 6 g12] 1 [4] [(6,vp 1 0)] [] [(1,bx 93 (qE (a1.getD (Int.tmod (w64 (x8+1)) (a1.length:Int)).toNat dd)))] (q_vu [] 2 [3,5,6] [(3,vi (w64 (x7+(w64 ((w64 (((a1.getD x8.toNat dd).X)*((a1.getD (Int.tmod (w64 (x8+1)) (a1.length:Int)).toNat dd).Y)))-(w64 (((a1.getD (Int.tmod (w64 (x8+1)) (a1.length:Int)).toNat dd).X)*((a1.getD x8.toNat dd).Y))))))))] [0,1] [] ?_)
   exact q_vv [] 2 [17] [(17,vi (w64 (x8+1)))] (q_hl (CG a1 (w64 (x7+(w64 ((w64 (((a1.getD x8.toNat dd).X)*((a1.getD (Int.tmod (w64 (x8+1)) (a1.length:Int)).toNat dd).Y)))-(w64 (((a1.getD (Int.tmod (w64 (x8+1)) (a1.length:Int)).toNat dd).X)*((a1.getD x8.toNat dd).Y))))))) (w64 (x8+1))) (ih (w64 (x7+(w64 ((w64 (((a1.getD x8.toNat dd).X)*((a1.getD (Int.tmod (w64 (x8+1)) (a1.length:Int)).toNat dd).Y)))-(w64 (((a1.getD (Int.tmod (w64 (x8+1)) (a1.length:Int)).toNat dd).X)*((a1.getD x8.toNat dd).Y))))))) (w64 (x8+1)) _ hm))
  ·refine q_ex 0 ?_;obtain rfl:=oi hm;exact q_l0
theorem qRX (a1:List qA) (r:Int) (hm:AP a1=some r):CtX Tryz.prog globs 200 0 0 [.one (tl qE dd a1)] [] (qTK r) (qT1 r):=by
 unfold AP at hm;refine q_E f200 45 λE=>?_;refine s_vn [] 0 ⟨[(0,vc (tl qE dd a1))],[]⟩ (q_sq ?_);refine q_jn (qOt a1) (λp=>HR a1 p=some r) ?_ ?_
 ·rintro x5 hm;refine q_cq hm (λhm=>?_) (λhm=>?_)
  ·refine s_vn [] 0 ⟨[(2,vi 0)],[]⟩ ?_;obtain rfl:=oi hm;exact q_rt q_rm
  ·refine q_sk (s_vv [] 0 [14] [(3,vi 0)] ?_);refine q_sq (s_va 0 [(15,vc (tl qE dd a1)),(16,vi (a1.length:Int)),(17,vi 0)] ?_);obtain⟨o14,h15,hm⟩:=qB hm;refine zG (nd f200 244) 0 (by kernel_rfl) FUEL qFo o14 (q_hl (CG a1 0 0) (qMD E a1 FUEL 0 0 o14 h15)) (s_vn [] 0 ⟨[(2,vi o14)],[]⟩ ?_);obtain rfl:=oi hm;exact q_rt q_rm
 ·rcases bif_c hm with⟨b2,hm⟩|⟨b2,hm⟩
  ·exact q_vv [qf 3 b2] 0 [] [(14,vb true)] (q_J (true) hm)
  ·obtain⟨v3,h4,hm⟩:=qB hm;exact q_vv [qf 3 b2,qk 5 [10,11] 0 ⟨[(10,vb false),(11,vc (tl qE dd a1))],[]⟩ (OE a1 v3 h4)] 0 [] [(14,vb (!v3))] (q_J (!v3) hm)
def qUP (r:Int):V:=vi r
def qSy (r:Int):List (Nat×(Nat×O)):=[]
theorem qRu (a1:List qA) (r:Int) (hm:AQ a1=some r):CtX Tryz.prog globs 151 0 0 [.one (tl qE dd a1)] [] (qUP r) (qSy r):=by
 unfold AQ at hm;refine q_E f151 19 λE=>?_;refine s_vn [] 0 ⟨[(0,vc (tl qE dd a1))],[]⟩ (q_sq ?_);refine q_bk 0 (s_va 0 [(3,vb (decide ((a1.length:Int)<3)))] ?_);refine q_cq hm (λhm=>?_) (λhm=>?_)
 ·refine s_vn [] 0 ⟨[(2,vi 3)],[]⟩ ?_;obtain rfl:=oi hm;exact q_rt q_rm
 ·refine s_vv [] 0 [3] [(7,vb (decide ((a1.length:Int)>32)))] (q_cq hm (λhm=>?_) (λhm=>?_))
  ·refine s_vn [] 0 ⟨[(2,vi 4)],[]⟩ ?_;obtain rfl:=oi hm;exact q_rt q_rm
  ·obtain⟨v4,h5,hm⟩:=qB hm;refine s_vv [qc 1 [12] 0 (OE a1 v4 h5)] 0 [7] [(11,vb (!v4))] (q_cq hm (λhm=>?_) (λhm=>?_))
   ·refine s_vn [] 0 ⟨[(2,vi 9)],[]⟩ ?_;obtain rfl:=oi hm;exact q_rt q_rm
   ·obtain⟨v7,h8,hm⟩:=qB hm;refine s_vn [qc 1 [16] 0 (qRX a1 v7 h8)] 0 ⟨[(15,vb (v7==0))],[]⟩ (q_cq hm (λhm=>?_) (λhm=>?_))
    ·refine s_vn [] 0 ⟨[(2,vi 19)],[]⟩ ?_;obtain rfl:=oi hm;exact q_rt q_rm
    ·refine q_sk (s_vn [] 0 ⟨[(2,vi 0)],[]⟩ ?_);obtain rfl:=oi hm;exact q_rt q_rm
open Go.Proofs Go.Proofs.Tryz
def qK2 (r:Span):V:=va (qH r)
def qLg (r:Span):List (Nat×(Nat×O)):=[]
theorem DO (a1:Int) (a2:Int) (r:Span) (hm:JG a1 a2=some r):CtX Tryz.prog globs 153 0 0 [.one (ci a1),.one (ci a2)] [] (qK2 r) (qLg r):=by
 unfold JG at hm;refine q_E f153 10 λE=>?_;refine s_vn [] 0 ⟨[(0,vi a1),(1,vi a2),(4,vp 0 0)],[(0,bx 53 [ci 0,ci 0])]⟩ (s_vu [] 1 [0,1] [] [0] [(0,bx 53 [ci (w64 (10*a1)),ci (w64 (10*a2))])] ?_);obtain rfl:=oi hm;exact q_rt q_rm
def qHp (r:List qA):V:=vo 0 0 2 r.length
def qGV (r:List qA):List (Nat×(Nat×O)):=[(0,ro 0 93 2 r.length (rf qE r))]
theorem qF6 (a1:List qA) (r:List qA) (hm:ZZ a1=some r):CtX Tryz.prog globs 227 0 0 [.one (tl qE dd a1)] [] (qHp r) (qGV r):=by
 unfold ZZ at hm;obtain⟨g1,hm⟩:=qJ hm;obtain rfl:=kD hm;refine qA8 (fn:=f227) (c:=nd f227 1) (nt:=8) (by kernel_rfl) (by kernel_rfl) (by kernel_rfl) (by kernel_rfl) λE=>?_;refine R_sq f227 2 3 (by kernel_rfl) (R_rn f227 2 0 [] [] 0 ⟨[(0,vc (tl qE dd a1))],[]⟩ o0 (by kernel_rfl) (by kernel_rfl) ?_);refine R_sq f227 6 7 (by kernel_rfl) (R_sq f227 12 13 (by kernel_rfl) ?_);refine qNL f227 12 1 1 ⟨[(0,vc (tl qE dd a1)),(3,vc (tl qE dd a1))],[]⟩ 111 111 93 4 (.tmp 3) a1.length (rf qE a1) (by kernel_rfl) (by kernel_rfl) (by kernel_rfl) (λb hb=>?_)
 refine R_cn f227 (.tmp 4) 26 27 (by kernel_rfl) b (by kernel_rfl) (λb6=>?_) (λb6=>?_)
 ·obtain rfl:a1=[]:=ua (hb b6);refine R_sq f227 52 53 (by kernel_rfl) (R_rn f227 52 2 [] [.own 2 0 93 2 (rf qE [])] 0 ⟨[(2,vo 0 0 2 0)],[(0,ro 0 93 2 0 (rf qE []))]⟩ o0 (by kernel_rfl) (by kernel_rfl) ?_);exact OP (by kernel_rfl) (BP (by kernel_rfl) (by kernel_rfl))
 ·refine qHv (by kernel_rfl) (R_sq f227 14 15 (by kernel_rfl) ?_);refine R_rn f227 14 3 [(0,drw 0 0 (rf qE [])),(2,drw 0 1 (rf qE ([]++a1)))] [.len 0 a1.length] 0 ⟨[(2,vo 0 1 2 a1.length)],[(0,ro 1 93 2 a1.length (rf qE ([]++a1)))]⟩ (o1 (And.intro (And.intro (litP qE dd 2 (λ_=>rfl) ([]:List qA) 0 rfl) (apP qE dd ([]:List qA) a1 0 a1.length 2 16 True trivial rfl rfl (λ_=>rfl) (by have:=zW g1;rw[ky];exact this))) (And.intro (And.intro (ky a1.length) (ky a1.length)) (ky a1.length)))) (by kernel_rfl) (by kernel_rfl) (OP (by kernel_rfl) ?_);exact BP (by kernel_rfl) (by kernel_rfl)
def qO5 (r:Bool):V:=vb r
def qNT (r:Bool):List (Nat×(Nat×O)):=[]
theorem qCX (a1:Int) (r:Bool) (hm:VU a1=some r):CtX Tryz.prog (markG::globs) 254 0 0 [.one (ci a1)] [] (qO5 r) (qNT r):=by
 unfold VU at hm;refine q_T f254 6 λE=>?_;refine s_vn [] 0 ⟨[(0,vi a1)],[]⟩ (s_vn [] 0 ⟨[(2,vb (a1 !=a1))],[]⟩ ?_);obtain rfl:=oi hm;exact q_rt q_rm
open Go.Proofs Go.Proofs.Tryz
def qKV (r:Int):V:=vi r
def qLj (r:Int):List (Nat×(Nat×O)):=[]
theorem CV (a1:Int) (a2:Int) (r:Int) (hm:JJ a1 a2=some r):CtX Tryz.prog (markG::globs) 231 0 0 [.one (ci a1),.one (ci a2)] [] (qKV r) (qLj r):=by
 unfold JJ at hm;refine q_T f231 20 λE=>?_;refine s_vn [] 0 ⟨[(0,vi a1),(1,vi a2)],[]⟩ ?_;obtain⟨v3,h4,hm⟩:=qB hm;refine s_vv [qc 1 [7] 0 (qCX a1 v3 h4)] 0 [] [(5,vb v3)] ?_;obtain⟨v5,h6,hm⟩:=qB hm;refine s_vv [qc 1 [9] 0 (qCX a2 v5 h6)] 0 [] [(6,vb v5)] (q_sq ?_);refine s_vv [] 0 [5] [(11,vb v3)] (q_cq hm (λhm=>?_) (λhm=>?_))
 ·refine q_sq (s_vn [] 0 ⟨[(12,vb v5)],[]⟩ ?_);refine q_cq hm (λhm=>?_) (λhm=>?_)
  ·refine s_vn [] 0 ⟨[(4,vi 0)],[]⟩ ?_;obtain rfl:=oi hm;exact q_rt q_rm
  ·refine q_sk (s_vn [] 0 ⟨[(4,vi (-1))],[]⟩ ?_);obtain rfl:=oi hm;exact q_rt q_rm
 ·refine q_sk (q_sq ?_);refine s_vv [] 0 [6,11] [(13,vb v5)] (q_cq hm (λhm=>?_) (λhm=>?_))
  ·refine s_vn [] 0 ⟨[(4,vi 1)],[]⟩ ?_;obtain rfl:=oi hm;exact q_rt q_rm
  ·refine q_sk (q_sq ?_);refine s_vv [] 0 [13] [(16,vb (decide (a1<a2)))] (q_cq hm (λhm=>?_) (λhm=>?_))
   ·refine s_vn [] 0 ⟨[(4,vi (-1))],[]⟩ ?_;obtain rfl:=oi hm;exact q_rt q_rm
   ·refine q_sk (q_sq ?_);refine s_vn [] 0 ⟨[(19,vb (decide (a1>a2)))],[]⟩ (q_cq hm (λhm=>?_) (λhm=>?_))
    ·refine s_vn [] 0 ⟨[(4,vi 1)],[]⟩ ?_;obtain rfl:=oi hm;exact q_rt q_rm
    ·refine q_sk (s_vn [] 0 ⟨[(4,vi 0)],[]⟩ ?_);obtain rfl:=oi hm;exact q_rt q_rm
def HP (r:Int):V:=vi r
def KF (r:Int):List (Nat×(Nat×O)):=[]
theorem qR6 (r:Int):yE (KF r):=by
 intro i k o h;unfold KF at h;cases h
def SP (a1:List Int) (x2:Int):St:=
 ⟨[(3,vi 0),(6,vc (tl qD dd a1)),(7,vi (a1.length:Int)),(8,vi x2)],[]⟩
def qEn :St:=
 ⟨[(3,vi 0)],[]⟩
theorem qJs (E:Env 0) (a1:List Int):∀(n:Nat) (x2:Int) (res:Int⊕Unit),YV a1 n x2=some res->HL (kt E 18 0) (nd f230 116) (wD 0 (λo=>qEn) (λv st=>RetQ Tryz.prog f230 (HP v) (KF v) .ret st) res) n (SP a1 x2):=by
 intro n
 induction n with
 |zero=>
  intro x2 res hm;cases hm
 |succ n ih=>
  intro x2 res hm;refine qS (s_va 0 [(9,vb (decide (x2<(a1.length:Int))))] ?_);refine q_sq (q_cq hm (λhm=>?_) (λhm=>?_))
  ·refine q_sk (q_sq ?_);refine q_bk 1 ?_;obtain⟨g4,hm⟩:=qJ hm;refine s_vv [qi 0 g4] 0 [9] [(5,vi (a1.getD x2.toNat dd))] (s_va 0 [(14,vb ((a1.getD x2.toNat dd) !=0))] ?_);refine q_cq hm (λhm=>?_) (λhm=>?_)
   ·refine s_vn [] 0 ⟨[(2,vi (a1.getD x2.toNat dd))],[]⟩ ?_;obtain rfl:=oi hm;refine q_rt (zJ (a1.getD x2.toNat dd) ?_);exact q_rm
   ·refine q_sk (q_vv [] 0 [5,8,14] [(8,vi (w64 (x2+1)))] ?_);exact q_hl (SP a1 (w64 (x2+1))) (ih (w64 (x2+1)) _ hm)
  ·refine q_ex 0 ?_;obtain rfl:=oi hm;exact q_l1 ()
theorem qNP (a1:List Int) (r:Int) (hm:MS a1=some r):CtX Tryz.prog (markG::globs) 230 0 0 [.one (tl qD dd a1)] [] (HP r) (KF r):=by
 unfold MS at hm;refine q_T f230 18 λE=>?_;refine s_vn [] 0 ⟨[(0,vc (tl qD dd a1))],[]⟩ (s_va 0 [(3,vi 0)] ?_);refine q_sq (s_vv [] 0 [0] [(6,vc (tl qD dd a1)),(7,vi (a1.length:Int)),(8,vi 0)] ?_);obtain⟨u8,h7,hm⟩:=qB hm;refine zO (nd f230 116) 0 (by kernel_rfl) FUEL (λo=>qEn) (λv st=>RetQ Tryz.prog f230 (HP v) (KF v) .ret st) u8 (q_hl (SP a1 0) (qJs E a1 FUEL 0 u8 h7)) ?_ ?_
 ·rintro v9 rfl st hr;obtain rfl:=oi hm;exact hr
 ·rintro o6 rfl;replace hm:_=some r:=hm;refine s_vn [] 0 ⟨[(2,vi 0)],[]⟩ ?_;obtain rfl:=oi hm;exact q_rt q_rm
def qRv (r:Int):V:=vi r
def qSf (r:Int):List (Nat×(Nat×O)):=[]
theorem qNR (a1:qA) (a2:qA) (r:Int) (hm:poly_Hull_1 a1 a2=some r):CtX Tryz.prog (markG::globs) 229 0 0 [.agg (qE a1),.agg (qE a2)] [] (qRv r) (qSf r):=by
 unfold poly_Hull_1 at hm;refine q_T f229 17 λE=>?_;refine s_vn [] 0 ⟨[(2,vp 0 0),(3,vp 1 0)],[(0,bx 93 (qE a1)),(1,bx 93 (qE a2))]⟩ ?_;obtain⟨v3,h4,hm⟩:=qB hm;obtain⟨v5,h6,hm⟩:=qB hm;obtain⟨v7,h8,hm⟩:=qB hm
 refine s_dn [qc 4 [6,8] 2 (CV a1.X a2.X v3 h4),qc 9 [11,13] 2 (CV a1.Y a2.Y v5 h6),qd 10 (drw 2 0 (rf qD [v3,v5])) (litP qD dd 1 (λ_=>rfl) ([v3,v5]:List Int) 2 rfl),qd 11 (dex (cen [] [] 3 0 (HP v7) (KF v7) [15] [2])) (wB (K:=(kt E 17 0)) (xs':=[.one (.lst 2 (rf qD [v3,v5]))]) (b:=false) ⟨[(15,vo 2 0 1 2)],[(2,ro 0 3 1 2 (rf qD [v3,v5]))]⟩ (opAt (rg f229 6) 11) [] [] 3 (o1 (ke 2)) (by simp only[tl,rf,show([v3,v5]:List Int).length=2 from rfl]) (qNP ([v3,v5]:List Int) v7 h8) (.inr ⟨(by kernel_rfl),qR6 v7⟩) (by kernel_rfl))] [0,1,0,4,15,0,32,0,128,511,1023,2047,4095] 2 ⟨[(4,vi v7)],[]⟩ ?_
 obtain rfl:=oi hm;exact q_rt q_rm
open Go.Proofs
def NB (a1:List qA) (r:List qA):V:= .undef
def DX (a1:List qA) (r:List qA):List (Nat×(Nat×O)):=[(0,ro 0 93 2 r.length (rf qE r))]
theorem lfB {α:Type} {o:Option α} {a b:α} (h:o=some a) (e:a=b:=by kernel_rfl):o=some b:=h.trans (congrArg some e)
def slices_SortFunc_SPoint_lay_ren :Go.Shelf.Ren:=⟨fun |6=>228|15=>213|14=>253|28=>247|29=>248|20=>269|21=>270|22=>271|23=>272|24=>273|25=>274|26=>275|27=>276|46=>288|47=>259|48=>260|49=>289|50=>290|57=>293|n=>n,fun |22=>111|24=>93|25=>256|3=>3|39=>246|0=>0|53=>267|55=>161|4=>4|46=>260|45=>259|50=>221|5=>5|9=>9|66=>274|70=>278|76=>294|77=>107|n=>n,fun n=>n⟩
theorem slices_SortFunc_SPoint_lay : Go.Proofs.SlLaysF0.n6 Tryz.prog slices_SortFunc_SPoint_lay_ren :={mixed:=by kernel_rfl,f6:=⟨Tryz.f228.name,by decide,lfB Tryz.func228⟩,f14:=⟨Tryz.f253.name,by decide,lfB Tryz.func253⟩,f15:=lfB Tryz.func213,f20:=⟨Tryz.f269.name,by decide,lfB Tryz.func269⟩,f21:=⟨Tryz.f270.name,by decide,lfB Tryz.func270⟩,f22:=⟨Tryz.f271.name,by decide,lfB Tryz.func271⟩,f23:=⟨Tryz.f272.name,by decide,lfB Tryz.func272⟩,f24:=⟨Tryz.f273.name,by decide,lfB Tryz.func273⟩,f25:=⟨Tryz.f274.name,by decide,lfB Tryz.func274⟩,f26:=⟨Tryz.f275.name,by decide,lfB Tryz.func275⟩,f27:=⟨Tryz.f276.name,by decide,lfB Tryz.func276⟩,f28:=lfB Tryz.func247,f29:=lfB Tryz.func248,f46:=⟨Tryz.f288.name,by decide,lfB Tryz.func288⟩,f47:=lfB Tryz.func259,f48:=lfB Tryz.func260,f49:=⟨Tryz.f289.name,by decide,lfB Tryz.func289⟩,f50:=⟨Tryz.f290.name,by decide,lfB Tryz.func290⟩,f57:=⟨Tryz.f293.name,by decide,lfB Tryz.func293⟩,t0:=Tryz.underlying0,a0:=Tryz.isAgg0,z0:=Tryz.sizeOf0,v0:=Tryz.zeroValue0,t3:=Tryz.underlying3,a3:=Tryz.isAgg3,z3:=Tryz.sizeOf3,v3:=Tryz.zeroValue3,t4:=Tryz.underlying4,a4:=Tryz.isAgg4,z4:=Tryz.sizeOf4,v4:=Tryz.zeroValue4,t5:=Tryz.underlying5,a5:=Tryz.isAgg5,z5:=Tryz.sizeOf5,v5:=Tryz.zeroValue5,t9:=Tryz.underlying9,a9:=Tryz.isAgg9,z9:=Tryz.sizeOf9,v9:=Tryz.zeroValue9,t22:=Tryz.underlying111,a22:=Tryz.isAgg111,z22:=Tryz.sizeOf111,v22:=Tryz.zeroValue111,t25:=Tryz.underlying256,a25:=Tryz.isAgg256,z25:=Tryz.sizeOf256,v25:=Tryz.zeroValue256,t39:=Tryz.underlying246,a39:=Tryz.isAgg246,z39:=Tryz.sizeOf246,v39:=Tryz.zeroValue246,t45:=Tryz.underlying259,a45:=Tryz.isAgg259,z45:=Tryz.sizeOf259,v45:=Tryz.zeroValue259,t46:=Tryz.underlying260,a46:=Tryz.isAgg260,z46:=Tryz.sizeOf260,v46:=Tryz.zeroValue260,t50:=Tryz.underlying221,a50:=Tryz.isAgg221,z50:=Tryz.sizeOf221,v50:=Tryz.zeroValue221,t53:=Tryz.underlying267,a53:=Tryz.isAgg267,z53:=Tryz.sizeOf267,v53:=Tryz.zeroValue267,t55:=Tryz.underlying161,a55:=Tryz.isAgg161,z55:=Tryz.sizeOf161,v55:=Tryz.zeroValue161,t66:=Tryz.underlying274,a66:=Tryz.isAgg274,z66:=Tryz.sizeOf274,v66:=Tryz.zeroValue274,t70:=Tryz.underlying278,a70:=Tryz.isAgg278,z70:=Tryz.sizeOf278,v70:=Tryz.zeroValue278,t76:=Tryz.underlying294,a76:=Tryz.isAgg294,z76:=Tryz.sizeOf294,v76:=Tryz.zeroValue294,t77:=Tryz.underlying107,a77:=Tryz.isAgg107,z77:=Tryz.sizeOf107,v77:=Tryz.zeroValue107}
def qO3 (p:qA):List Value:=[.int .i64 p.X,.int .i64 p.Y]
theorem slices_SortFunc_SPoint_swo :Go.Sort.SWO (ltOf cmpPt) where
 irrefl x:=by unfold ltOf cmpPt;simp
 trans x y z h1 h2:=by
  rw[ltPt] at*;simp only[decide_eq_true_eq] at*;omega
 ntrans x y z h1 h2:=by
  rw[ltPt] at*;simp only[decide_eq_false_iff_not] at*;omega
theorem slices_SortFunc_SPoint_anti (x y:qA) (h1:ltOf cmpPt x y=false) (h2:ltOf cmpPt y x=false):x=y:=by
 rw[ltPt] at*;simp only[decide_eq_false_iff_not] at*;cases x;cases y;simp only[qA.mk.injEq] at*;omega
theorem qDs (a1:List qA) (r:List qA) (hm:QD a1=some r):CtX Tryz.prog globs 228 1 1 [.one (.own 0 0 2 a1.length),.one (.fn 229 [])] [(0,ro 0 93 2 a1.length (rf qE a1))] (NB a1 r) (DX a1 r):=by
 unfold QD at hm;obtain⟨g1,hm⟩:=qJ hm;obtain rfl:=kD hm;have hs:=qXt g1;have eg:∀args w,(callFunc 229 args).run Tryz.prog w= .ok (.enter 229 args) w:=enters_of Tryz.func229 (by kernel_rfl) rfl;exact qX6 (gl:=globs) slices_SortFunc_SPoint_lay 2 Tryz.isAgg93 Tryz.sizeOf93 qO3 (λ_=>rfl) (λx v hv=>by simp[qO3] at hv;rcases hv with rfl|rfl<;>rfl) poly_Hull_1 cmpPt poly_Hull_1_eq slices_SortFunc_SPoint_swo slices_SortFunc_SPoint_anti 229 93 eg (λx y=>qNR x y _ (poly_Hull_1_eq x y)) a1 hs.1 hs.2
open Go.Proofs Go.Proofs.Tryz
def ZW (a1:List qA) (r:(List qA)×(List qA)):V:=vo 0 0 2 r.2.length
def ZX (a1:List qA) (r:(List qA)×(List qA)):List (Nat×(Nat×O)):=[(0,ro 0 93 2 r.2.length (rf qE r.2))]
def VF (l3:List qA) (x4:Int) (x12:Int) (l19:List qA) (l19n:Nat) (x20:Int):St:=
 ⟨[(0,vo 0 0 2 l19n),(3,vi x20),(4,vc (.sub 0 0 2 x4.toNat (l3.length-x4.toNat))),(5,vi x12)],[(0,ro 0 93 2 l19n (rf qE l19))]⟩
def YC (l3:List qA) (x4:Int) (l10:List qA) (l10n:Nat) (x11:Int) (x12:Int):St:=
 ⟨[(0,vo 0 0 2 l10n),(3,vi x11),(4,vc (.sub 0 0 2 x4.toNat (l3.length-x4.toNat))),(5,vi x12)],[(0,ro 0 93 2 l10n (rf qE l10))]⟩
def VL (l21:List qA) (x22:Int):St:=
 ⟨[(0,vo 0 0 2 l21.length),(3,vi x22)],[(0,ro 0 93 2 l21.length (rf qE l21))]⟩
def JZ (l3:List qA) (l3n:Nat) (x4:Int):St:=
 ⟨[(0,vo 0 0 2 l3n),(3,vi x4)],[(0,ro 0 93 2 l3n (rf qE l3))]⟩
def VJ (l27:List qA):St:=
 ⟨[(0,vo 0 0 2 l27.length)],[(0,ro 0 93 2 l27.length (rf qE l27))]⟩
theorem qBT (E:Env 1) (l3:List qA) (x4:Int):∀(n:Nat) (l10:List qA) (l10n:Nat) (x11:Int) (x12:Int) (res:(List qA)×Int),l10.length=l10n->wN l3 x4 n l10 x11 x12=some res->HL (kx E 61 1) (nd f232 119380) (zM 2 (λo=>VL o.1 o.2) res) n (YC l3 x4 l10 l10n x11 x12):=by
 intro n
 induction n with
 |zero=>
  intro l10 l10n x11 x12 res hl0 hm;cases hm
 |succ n ih=>
  intro l10 l10n x11 x12 res hl0 hm;subst hl0;refine qS (q_sq ?_);refine s_va 1 [(32,vb (decide (x12<(((l3.length-x4.toNat):Nat):Int))))] (q_cq hm (λhm=>?_) (λhm=>?_))
  ·refine q_sk (q_jn (ι:=(List qA)×Nat×Int) (λp=>VF l3 x4 x12 p.1 p.2.1 p.2.2) (λp=>p.1.length=p.2.1/\ZF x12 (wN l3 x4 n) p.1 p.2.2=some res) ?_ ?_)
   ·rintro⟨l19,l19n,x20⟩ ⟨el19,hm⟩;replace el19:l19.length=l19n:=el19;subst el19;show H _ (VF l3 x4 x12 l19 l19.length x20) _ _;exact q_vv [] 1 [5] [(5,vi (w64 (x12+1)))] (q_hl (YC l3 x4 l19 l19.length x20 (w64 (x12+1))) (ih l19 l19.length x20 (w64 (x12+1)) _ rfl hm))
   ·refine q_bk 3 ?_;obtain⟨g14,hm⟩:=qJ hm;obtain⟨g15,hm⟩:=qJ hm;obtain⟨g16,hm⟩:=qJ hm;refine s_du [qi 2 g14,qd 3 dN (uc (uO (qW (zC g14)) x4.toNat) (kJ g15)),qi 7 g16,qd 8 dN (uc (uO (qW (zC g16)) x4.toNat) (kJ g15))] [0,0,3,7,0,0,32,112,240,511] 1 [32] [(44,vb (!((((l10.getD (x4.toNat+x12.toNat) dd).X)==((l10.getD (x4.toNat+((w64 (x12-1)).toNat)) dd).X))&&((((l10.getD (x4.toNat+x12.toNat) dd).Y)==((l10.getD (x4.toNat+((w64 (x12-1)).toNat)) dd).Y))&&true))))] [] [] (q_cq hm (λhm=>?_) (λhm=>?_))
    ·obtain⟨g18,hm⟩:=qJ hm;refine s_vu [qi 4 g14,qd 5 dN (uc (uO (qW (zC g14)) x4.toNat) (kJ g15)),qi 6 g18,qd 7 (drw 0 0 (rf qE (l10.set x11.toNat (l10.getD (x4.toNat+x12.toNat) dd)))) (stP qE dd (l10.getD (x4.toNat+x12.toNat) dd) l10 l10.length x11.toNat 0 [ci ((l10.getD (x4.toNat+x12.toNat) dd).X),ci ((l10.getD (x4.toNat+x12.toNat) dd).Y)] rfl (qW (zC g18)) rfl)] 1 [44] [] [0] [(0,ro 0 93 2 l10.length (rf qE (l10.set x11.toNat (l10.getD (x4.toNat+x12.toNat) dd))))] (q_vv [] 1 [3] [(3,vi (w64 (x11+1)))] ?_)
     exact q_J ((l10.set x11.toNat (l10.getD (x4.toNat+x12.toNat) dd)),l10.length,w64 (x11+1)) ⟨(jV rfl),hm⟩
    ·exact q_sk (q_J (l10,l10.length,x11) ⟨rfl,hm⟩)
  ·refine q_ex 2 ?_;obtain rfl:=oi hm;exact q_l0
theorem qBI (E:Env 1) (a1:List qA):∀(n:Nat) (l3:List qA) (l3n:Nat) (x4:Int) (res:((List qA)×(List qA))⊕(List qA)),l3.length=l3n->jB n l3 x4=some res->HL (kx E 61 1) (nd f232 116) (wD 0 VJ (λv st=>RetQ Tryz.prog f232 (ZW a1 v) (ZX a1 v) .ret st) res) n (JZ l3 l3n x4):=by
 intro n
 induction n with
 |zero=>
  intro l3 l3n x4 res hl0 hm;cases hm
 |succ n ih=>
  intro l3 l3n x4 res hl0 hm;subst hl0;refine qS (q_sq ?_);refine s_va 1 [(13,vb (decide (x4<(l3.length:Int))))] (q_cq hm (λhm=>?_) (λhm=>?_))
  ·refine q_sk (q_sq ?_);refine q_bk 1 ?_;obtain⟨g6,hm⟩:=qJ hm;obtain⟨g7,hm⟩:=qJ hm;refine s_du [qi 2 g6,qd 3 dN (qW (zC g6)),qi 7 g7,qd 8 dN (qW (zC g7))] [0,0,3,7,0,0,32,112,240,511] 1 [13] [(25,vb ((((l3.getD x4.toNat dd).X)==((l3.getD ((w64 (x4-1)).toNat) dd).X))&&((((l3.getD x4.toNat dd).Y)==((l3.getD ((w64 (x4-1)).toNat) dd).Y))&&true)))] [] [] (q_cq hm (λhm=>?_) (λhm=>?_))
   ·obtain⟨g9,hm⟩:=qJ hm;refine s_vv [qd 2 dN (And.intro (zS g9).1 (zS g9).2.1)] 1 [25] [(4,vc (.sub 0 0 2 x4.toNat (l3.length-x4.toNat)))] (q_sq ?_);refine s_va 1 [(5,vi 1)] ?_;obtain⟨o23,h24,hm⟩:=qB hm;refine zG (nd f232 119380) 2 (by kernel_rfl) FUEL (λo=>VL o.1 o.2) o23 (q_hl (YC l3 x4 l3 l3.length x4 1) (qBT E l3 x4 FUEL l3 l3.length x4 1 o23 rfl h24)) ?_;obtain⟨g25,hm⟩:=qJ hm
    refine s_wu [qd 2 dN (And.intro (zS g25).1 (zS g25).2.1),qd 3 (drw 0 0 (rf qE o23.1)) (show o23.2.toNat+(o23.1.length-o23.2.toNat)<=o23.1.length by have:=(zS g25);omega)] [.row 0 o23.2.toNat (rf qE (o23.1.take o23.2.toNat))] (o1 (tkP qE dd o23.1 o23.2.toNat o23.2.toNat (ke _))) 1 [] [] [0] [(0,ro 0 93 2 o23.2.toNat (rf qE (o23.1.take o23.2.toNat)))] ?_;obtain⟨g26,hm⟩:=qJ hm
    refine s_vv [qd 2 dN (And.intro (zS g26).2.1 (zS g26).2.2)] 1 [0,3] [(2,vo 0 0 2 o23.2.toNat)] (q_fn [.len 0 ((o23.1.take o23.2.toNat).length)] ⟨[(2,vo 0 0 2 ((o23.1.take o23.2.toNat).length))],[(0,ro 0 93 2 ((o23.1.take o23.2.toNat).length) (rf qE (o23.1.take o23.2.toNat)))]⟩ (o1 (And.intro (Eq.symm (show(o23.1.take o23.2.toNat).length=o23.2.toNat from(XP rfl (uo (gc _ _) (show o23.2.toNat+(o23.1.length-o23.2.toNat)<=o23.1.length by have:=(zS g25);omega))))) (Eq.symm (show(o23.1.take o23.2.toNat).length=o23.2.toNat from(XP rfl (uo (gc _ _) (show o23.2.toNat+(o23.1.length-o23.2.toNat)<=o23.1.length by have:=(zS g25);omega))))))) ?_)
    obtain rfl:=oi hm;refine q_rt (zJ ((o23.1.take o23.2.toNat),(o23.1.take o23.2.toNat)) ?_);exact q_rm
   ·refine q_sk (q_vv [] 1 [3,25] [(3,vi (w64 (x4+1)))] ?_);exact q_hl (JZ l3 l3.length (w64 (x4+1))) (ih l3 l3.length (w64 (x4+1)) _ rfl hm)
  ·refine q_ex 0 ?_;obtain rfl:=oi hm;exact q_l1 l3
theorem qD6 (a1:List qA) (r:(List qA)×(List qA)) (hm:jS a1=some r):CtX Tryz.prog globs 232 1 1 [.one (.own 0 0 2 a1.length)] [(0,ro 0 93 2 a1.length (rf qE a1))] (ZW a1 r) (ZX a1 r):=by
 unfold jS at hm;refine q_E f232 61 λE=>?_;refine s_vn [] 1 ⟨[(0,vo 0 0 2 a1.length)],[(0,ro 0 93 2 a1.length (rf qE a1))]⟩ (q_sq ?_);refine s_va 1 [(8,vb (decide ((a1.length:Int)<2)))] (q_cq hm (λhm=>?_) (λhm=>?_))
 ·refine s_vv [] 1 [0,8] [(2,vo 0 0 2 a1.length)] ?_;obtain rfl:=oi hm;exact q_rt q_rm
 ·refine q_sk (q_sq ?_);refine s_vv [] 1 [8] [(3,vi 1)] ?_;obtain⟨u30,h29,hm⟩:=qB hm;refine zO (nd f232 116) 0 (by kernel_rfl) FUEL VJ (λv st=>RetQ Tryz.prog f232 (ZW a1 v) (ZX a1 v) .ret st) u30 (q_hl (JZ a1 a1.length 1) (qBI E a1 FUEL a1 a1.length 1 u30 rfl h29)) ?_ ?_
  ·rintro v31 rfl st hr;obtain rfl:=oi hm;exact hr
  ·rintro o28 rfl;replace hm:_=some r:=hm;refine s_vv [] 1 [0] [(2,vo 0 0 2 o28.length)] ?_;obtain rfl:=oi hm;exact q_rt q_rm
def qUa (r:Int):V:=vi r
def qTw (r:Int):List (Nat×(Nat×O)):=[]
theorem qRW (a1:qA) (a2:qA) (a3:qA) (r:Int) (hm:OL a1 a2 a3=some r):CtX Tryz.prog globs 255 0 0 [.agg (qE a1),.agg (qE a2),.agg (qE a3)] [] (qUa r) (qTw r):=by
 unfold OL at hm;refine q_E f255 30 λE=>?_;refine s_vn [] 0 ⟨[(3,vp 0 0),(4,vp 1 0),(5,vp 2 0)],[(0,bx 93 (qE a1)),(1,bx 93 (qE a2)),(2,bx 93 (qE a3))]⟩ (s_vn [] 3 ⟨[(6,vi (w64 ((w64 ((w64 (a2.X-a1.X))*(w64 (a3.Y-a1.Y))))-(w64 ((w64 (a3.X-a1.X))*(w64 (a2.Y-a1.Y)))))))],[]⟩ ?_);obtain rfl:=oi hm;exact q_rt q_rm
def qDJ (r:(List qA)):V:=vo 0 0 2 r.length
def BJ (r:(List qA)):List (Nat×(Nat×O)):=[(0,ro 0 93 2 r.length (rf qE r))]
theorem qKl (r:(List qA)):yE (BJ r):=by
 intro i k o h;unfold BJ at h;rw[look_cons] at h;split at h
 ·cases h;exact λ_ _=>rfl
 ·cases h
def RG (a1:List qA) (x3:Int):St:=
 ⟨[(5,vp 1 0),(6,vc (tl qE dd a1)),(7,vi (a1.length:Int)),(8,vi x3)],[(1,bx 93 (qE (a1.getD x3.toNat dd)))]⟩
def qNu (a1:List qA) (x3:Int) (l6:List qA) (x12:Bool):St:=
 (RG a1 x3).up [] [(3,vo 0 0 2 l6.length),(31,vb x12)] [] [(0,ro 0 93 2 l6.length (rf qE l6))]
def OZ (a1:List qA) (x3:Int) (l6:List qA) (l6n:Nat):St:=
 (RG a1 x3).up [] [(3,vo 0 0 2 l6n)] [] [(0,ro 0 93 2 l6n (rf qE l6))]
def qFw (a1:List qA) (x3:Int) (l15:List qA):St:=
 (RG a1 x3).up [] [(3,vo 0 0 2 l15.length)] [] [(0,ro 0 93 2 l15.length (rf qE l15))]
def IB (a1:List qA) (l2:List qA) (l2n:Nat) (x3:Int):St:=
 (RG a1 x3).up [5] [(3,vo 0 0 2 l2n)] [1] [(0,ro 0 93 2 l2n (rf qE l2))]
def qFj (l19:List qA):St:=
 ⟨[(3,vo 0 0 2 l19.length)],[(0,ro 0 93 2 l19.length (rf qE l19))]⟩
theorem qNl (E:Env 0) (a1:List qA) (x3:Int):∀(n:Nat) (l6:List qA) (l6n:Nat) (res:(List qA)),l6.length=l6n->JY a1 x3 n l6=some res->HL (kx E 47 0) (nd f233 29896) (zM 2 (λo=>qFw a1 x3 o) res) n (OZ a1 x3 l6 l6n):=by
 intro n
 induction n with
 |zero=>
  intro l6 l6n res hl0 hm;cases hm
 |succ n ih=>
  intro l6 l6n res hl0 hm;subst hl0;refine qS (q_sq ?_);refine q_jn (qNu a1 x3 l6) (λp=>MY l6 (JY a1 x3 n) p=some res) ?_ ?_
  ·rintro x12 hm;refine q_cq hm (λhm=>?_) (λhm=>?_)
   ·refine q_sk (q_bk 3 ?_);obtain⟨g14,hm⟩:=qJ hm
    exact q_wu [qd 4 dN (And.intro (zS g14).2.1 (zS g14).2.2)] [.row 0 ((w64 ((l6.length:Int)-1)).toNat) (rf qE (l6.take ((w64 ((l6.length:Int)-1)).toNat)))] (o1 (tkP qE dd l6 l6.length ((w64 ((l6.length:Int)-1)).toNat) (show(w64 ((l6.length:Int)-1)).toNat<=l6.length by have:=(zS g14);omega))) 2 [3,31] [(3,vo 0 0 2 ((w64 ((l6.length:Int)-1)).toNat))] [0] [(0,ro 0 93 2 ((w64 ((l6.length:Int)-1)).toNat) (rf qE (l6.take ((w64 ((l6.length:Int)-1)).toNat))))] (q_hl (OZ a1 x3 (l6.take ((w64 ((l6.length:Int)-1)).toNat)) ((w64 ((l6.length:Int)-1)).toNat)) (ih (l6.take ((w64 ((l6.length:Int)-1)).toNat)) ((w64 ((l6.length:Int)-1)).toNat) _ (XP rfl (show(w64 ((l6.length:Int)-1)).toNat<=l6.length by have:=(zS g14);omega)) hm))
   ·refine q_ex 2 ?_;obtain rfl:=oi hm;exact q_l0
  ·rcases bif_c hm with⟨b7,hm⟩|⟨b7,hm⟩
   ·obtain⟨g8,hm⟩:=qJ hm;obtain⟨g9,hm⟩:=qJ hm;obtain⟨v10,h11,hm⟩:=qB hm
    exact q_du [qf 3 b7,qi 8 g8,qd 9 dN (qW (zC g8)),qi 14 g9,qd 15 dN (qW (zC g9)),qk 17 [15,21,27,28] 2 ⟨[(15,vb true),(21,va [ci ((l6.getD ((w64 ((l6.length:Int)-2)).toNat) dd).X),ci ((l6.getD ((w64 ((l6.length:Int)-2)).toNat) dd).Y)]),(27,va [ci ((l6.getD ((w64 ((l6.length:Int)-1)).toNat) dd).X),ci ((l6.getD ((w64 ((l6.length:Int)-1)).toNat) dd).Y)]),(28,va [ci ((a1.getD x3.toNat dd).X),ci ((a1.getD x3.toNat dd).Y)])],[]⟩ (qRW (l6.getD ((w64 ((l6.length:Int)-2)).toNat) dd) (l6.getD ((w64 ((l6.length:Int)-1)).toNat) dd) (a1.getD x3.toNat dd) v10 h11)] [0,1,3,7,15,15,47,111,255,511,15,15,2063,6159,15375,31759,15,131071,262143,524287] 2 [] [(31,vb (decide (v10<=0)))] [] [] (q_J (decide (v10<=0)) hm)
   ·exact q_du [qf 3 b7] [0,1,3,7,15,15,47,111,255,511,15,15,2063,6159,15375,31759,15,131071,262143,524287] 2 [] [(31,vb false)] [] [] (q_J (false) hm)
theorem qNi (E:Env 0) (a1:List qA):∀(n:Nat) (l2:List qA) (l2n:Nat) (x3:Int) (res:(List qA)),l2.length=l2n->VG a1 n l2 x3=some res->HL (kx E 47 0) (nd f233 116) (zM 0 qFj res) n (IB a1 l2 l2n x3):=by
 intro n
 induction n with
 |zero=>
  intro l2 l2n x3 res hl0 hm;cases hm
 |succ n ih=>
  intro l2 l2n x3 res hl0 hm;subst hl0;refine qS (s_va 1 [(9,vb (decide (x3<(a1.length:Int))))] ?_);refine q_sq (q_cq hm (λhm=>?_) (λhm=>?_))
  ·refine q_sk (q_sq ?_);refine q_bk 1 ?_;obtain⟨g5,hm⟩:=qJ hm;refine s_vu [qi 0 g5] 1 [9] [(5,vp 1 0)] [] [(1,bx 93 (qE (a1.getD x3.toNat dd)))] (q_sq ?_);obtain⟨o16,h17,hm⟩:=qB hm;refine zG (nd f233 29896) 2 (by kernel_rfl) FUEL (λo=>qFw a1 x3 o) o16 (q_hl (OZ a1 x3 l2 l2.length) (qNl E a1 x3 FUEL l2 l2.length o16 rfl h17)) ?_;obtain⟨g18,hm⟩:=qJ hm
   refine q_vu [qd 2 (drw 2 0 (rf qE [(a1.getD x3.toNat dd)])) (litP qE dd 2 (λ_=>rfl) ([(a1.getD x3.toNat dd)]:List qA) 1 rfl),qd 3 (drw 0 1 (rf qE (o16++[(a1.getD x3.toNat dd)]))) (apP qE dd o16 ([(a1.getD x3.toNat dd)]:List qA) o16.length 1 2 16 (1<=1) (ke _) rfl rfl (λ_=>rfl) (zW g18))] 2 [3,5] [(3,vo 0 1 2 (o16.length+1))] [0,1] [(0,ro 1 93 2 (o16.length+1) (rf qE (o16++[(a1.getD x3.toNat dd)])))] (q_vv [] 3 [8] [(8,vi (w64 (x3+1)))] ?_)
   exact q_hl (IB a1 (o16++[(a1.getD x3.toNat dd)]) (o16.length+1) (w64 (x3+1))) (ih (o16++[(a1.getD x3.toNat dd)]) (o16.length+1) (w64 (x3+1)) _ (zX rfl rfl) hm)
  ·refine q_ex 0 ?_;obtain rfl:=oi hm;exact q_l0
theorem qIC (a1:List qA) (r:(List qA)) (hm:FA a1=some r):CtX Tryz.prog globs 233 0 0 [.one (tl qE dd a1)] [] (qDJ r) (BJ r):=by
 unfold FA at hm;refine q_E f233 47 λE=>?_;refine s_vn [] 0 ⟨[(0,vc (tl qE dd a1))],[]⟩ (s_va 0 [(3,vc (.emp))] ?_);refine q_sq (s_vv [] 0 [0] [(6,vc (tl qE dd a1)),(7,vi (a1.length:Int)),(8,vi 0)] ?_);refine q_fo 3 0 93 2 qE ?_;obtain⟨o20,h21,hm⟩:=qB hm;refine zG (nd f233 116) 0 (by kernel_rfl) FUEL qFj o20 (q_hl (IB a1 ([]:List qA) 0 0) (qNi E a1 FUEL ([]:List qA) 0 0 o20 rfl h21)) ?_;obtain⟨g22,hm⟩:=qJ hm
 refine s_wn [qd 4 dN (And.intro (zS g22).2.1 (zS g22).2.2)] [.row 0 ((w64 ((o20.length:Int)-1)).toNat) (rf qE (o20.take ((w64 ((o20.length:Int)-1)).toNat)))] (o1 (tkP qE dd o20 o20.length ((w64 ((o20.length:Int)-1)).toNat) (show(w64 ((o20.length:Int)-1)).toNat<=o20.length by have:=(zS g22);omega))) 1 ⟨[(2,vo 0 0 2 ((w64 ((o20.length:Int)-1)).toNat))],[(0,ro 0 93 2 ((w64 ((o20.length:Int)-1)).toNat) (rf qE (o20.take ((w64 ((o20.length:Int)-1)).toNat))))]⟩ ?_
 refine q_fn [.len 0 ((o20.take ((w64 ((o20.length:Int)-1)).toNat)).length)] ⟨[(2,vo 0 0 2 ((o20.take ((w64 ((o20.length:Int)-1)).toNat)).length))],[(0,ro 0 93 2 ((o20.take ((w64 ((o20.length:Int)-1)).toNat)).length) (rf qE (o20.take ((w64 ((o20.length:Int)-1)).toNat))))]⟩ (o1 (And.intro (Eq.symm (show(o20.take ((w64 ((o20.length:Int)-1)).toNat)).length=(w64 ((o20.length:Int)-1)).toNat from(XP rfl (show(w64 ((o20.length:Int)-1)).toNat<=o20.length by have:=(zS g22);omega)))) (Eq.symm (show(o20.take ((w64 ((o20.length:Int)-1)).toNat)).length=(w64 ((o20.length:Int)-1)).toNat from(XP rfl (show(w64 ((o20.length:Int)-1)).toNat<=o20.length by have:=(zS g22);omega)))))) ?_
 obtain rfl:=oi hm;exact q_rt q_rm
open Go.Proofs Go.Proofs.Tryz
def LA (a1:List qA) (r:(List qA)):V:= .undef
def FZ (a1:List qA) (r:(List qA)):List (Nat×(Nat×O)):=[(0,ro 0 93 2 r.length (rf qE r))]
def JS (l2:List qA) (l2n:Nat) (x3:Int) (x4:Int):St:=
 ⟨[(0,vo 0 0 2 l2n),(2,vi x3),(3,vi x4)],[(0,ro 0 93 2 l2n (rf qE l2))]⟩
def VV (l8:List qA):St:=
 ⟨[],[(0,ro 0 93 2 l8.length (rf qE l8))]⟩
theorem qB4 (E:Env 1):∀(n:Nat) (l2:List qA) (l2n:Nat) (x3:Int) (x4:Int) (res:(List qA)),l2.length=l2n->jZ n l2 x3 x4=some res->HL (kx E 28 1) (nd f234 12) (zM 0 VV res) n (JS l2 l2n x3 x4):=by
 intro n
 induction n with
 |zero=>
  intro l2 l2n x3 x4 res hl0 hm;cases hm
 |succ n ih=>
  intro l2 l2n x3 x4 res hl0 hm;subst hl0;refine qS (q_sq ?_);refine s_va 1 [(9,vb (decide (x3<x4)))] (q_cq hm (λhm=>?_) (λhm=>?_))
  ·refine q_sk (q_sq ?_);refine q_bk 1 ?_;obtain⟨g6,hm⟩:=qJ hm;obtain⟨g7,hm⟩:=qJ hm
   refine q_du [qi 6 g6,qd 7 dN (qW (zC g6)),qi 10 g7,qd 11 dN (qW (zC g7)),qi 12 g7,qd 13 (drw 0 0 (rf qE (l2.set x3.toNat (l2.getD x4.toNat dd)))) (stP qE dd (l2.getD x4.toNat dd) l2 l2.length x3.toNat 0 [ci ((l2.getD x4.toNat dd).X),ci ((l2.getD x4.toNat dd).Y)] rfl (qW (zC g7)) rfl),qi 14 g6,qd 15 (drw 0 0 (rf qE ((l2.set x3.toNat (l2.getD x4.toNat dd)).set x4.toNat (l2.getD x3.toNat dd)))) (stP qE dd (l2.getD x3.toNat dd) (l2.set x3.toNat (l2.getD x4.toNat dd)) l2.length x4.toNat 0 [ci ((l2.getD x3.toNat dd).X),ci ((l2.getD x3.toNat dd).Y)] (jV rfl) (qW (zC g6)) rfl)] [0,0,0,0,0,0,48,112,0,0,768,1792,4083,8179,16383,32767] 1 [9] [] [0] [(0,ro 0 93 2 l2.length (rf qE ((l2.set x3.toNat (l2.getD x4.toNat dd)).set x4.toNat (l2.getD x3.toNat dd))))] ?_
   exact q_vv [] 1 [2,3] [(2,vi (w64 (x3+1))),(3,vi (w64 (x4-1)))] (q_hl (JS ((l2.set x3.toNat (l2.getD x4.toNat dd)).set x4.toNat (l2.getD x3.toNat dd)) l2.length (w64 (x3+1)) (w64 (x4-1))) (ih ((l2.set x3.toNat (l2.getD x4.toNat dd)).set x4.toNat (l2.getD x3.toNat dd)) l2.length (w64 (x3+1)) (w64 (x4-1)) _ (jV (jV rfl)) hm))
  ·refine q_ex 0 ?_;obtain rfl:=oi hm;exact q_l0
theorem qDY (a1:List qA) (r:(List qA)) (hm:QQ a1=some r):CtX Tryz.prog globs 234 1 1 [.one (.own 0 0 2 a1.length)] [(0,ro 0 93 2 a1.length (rf qE a1))] (LA a1 r) (FZ a1 r):=by
 unfold QQ at hm;refine q_E f234 28 λE=>?_;refine s_vn [] 1 ⟨[(0,vo 0 0 2 a1.length),(2,vi 0),(3,vi (w64 ((a1.length:Int)-1)))],[(0,ro 0 93 2 a1.length (rf qE a1))]⟩ ?_;obtain⟨o9,h10,hm⟩:=qB hm;refine zG (nd f234 12) 0 (by kernel_rfl) FUEL VV o9 (q_hl (JS a1 a1.length 0 (w64 ((a1.length:Int)-1))) (qB4 E FUEL a1 a1.length 0 (w64 ((a1.length:Int)-1)) o9 rfl h10)) ?_;obtain rfl:=oi hm;exact q_rm
def qVo (r:(List qA)):V:=vo 0 0 2 r.length
def qVn (r:(List qA)):List (Nat×(Nat×O)):=[(0,ro 0 93 2 r.length (rf qE r))]
def qPM (a1:List qA) (x6:Bool):St:=
 ⟨[(0,vc (tl qE dd a1)),(17,vb x6)],[]⟩
theorem qT3 (a1:List qA) (r:(List qA)) (hm:qCa a1=some r):CtX Tryz.prog globs 201 0 0 [.one (tl qE dd a1)] [] (qVo r) (qVn r):=by
 unfold qCa at hm;refine q_E f201 36 λE=>?_;refine s_vn [] 0 ⟨[(0,vc (tl qE dd a1))],[]⟩ (q_sq ?_);refine q_jn (qPM a1) (λp=>BM a1 p=some r) ?_ ?_
 ·rintro x6 hm;refine q_cq hm (λhm=>?_) (λhm=>?_)
  ·refine s_vn [] 0 ⟨[(2,vc (.emp))],[]⟩ (q_fn [.own 2 0 93 2 (rf qE [])] ⟨[(2,vo 0 0 2 0)],[(0,ro 0 93 2 0 (rf qE []))]⟩ o0 ?_);refine q_fn [.len 0 (([]:List qA).length)] ⟨[(2,vo 0 0 2 (([]:List qA).length))],[(0,ro 0 93 2 (([]:List qA).length) (rf qE []))]⟩ (o1 (And.intro (show 0=([]:List qA).length from rfl) (show 0=([]:List qA).length from rfl))) ?_;obtain rfl:=oi hm;exact q_rt q_rm
  ·refine q_sk ?_;obtain⟨v8,h9,hm⟩:=qB hm;refine s_vn [qc 1 [18] 0 (qF6 a1 v8 h9)] 0 ⟨[(3,vo 0 0 2 v8.length)],[(0,ro 0 93 2 v8.length (rf qE v8))]⟩ ?_;obtain⟨v10,h11,hm⟩:=qB hm;obtain⟨g12,hm⟩:=qJ hm
   refine s_wu [qd 1 (dex (cen [(0,0)] [0] 0 1 (NB v8 v10) (DX v8 v10) [20] [0])) (wB (K:=(kx E 36 0)) ⟨[(20,vo 0 0 2 v8.length)],[(0,ro 0 93 2 v8.length (rf qE v8))]⟩ (opAt (rg f201 30) 1) [(0,0)] [0] 0 o0 rfl (qDs v8 v10 h11) (.inl rfl) (by kernel_rfl))] [.len 0 v8.length] (o1 (And.intro (And.intro (Eq.refl v8.length) (Eq.refl v8.length)) (And.intro (MV g12) (Eq.refl v8.length)))) 1 [] [] [0] [(0,ro 0 93 2 v8.length (rf qE v10))] ?_;obtain⟨v13,h14,hm⟩:=qB hm
   refine s_vn [qd 1 (dpr [.len 0 v10.length] (dex (cen [(0,0)] [0] 0 1 (ZW v10 v13) (ZX v10 v13) [22] [0]))) (And.intro (And.intro (Eq.symm (show v10.length=v8.length from(MV g12))) (Eq.symm (show v10.length=v8.length from(MV g12)))) (Eq.symm (show v10.length=v8.length from(MV g12)))),qd 1 dN (wB (K:=(kx E 36 0)) ⟨[(22,vo 0 0 2 v10.length)],[(0,ro 0 93 2 v10.length (rf qE v10))]⟩ (opAt (rg f201 62) 1) [(0,0)] [0] 0 o0 rfl (qD6 v10 v13 h14) (.inl rfl) (by kernel_rfl))] 1 ⟨[(3,vo 0 0 2 v13.2.length)],[(0,ro 0 93 2 v13.2.length (rf qE v13.2))]⟩ ?_;obtain⟨v15,h16,hm⟩:=qB hm
   refine s_vu [qd 1 (dex (cen [] [] 1 0 (qDJ v15) (BJ v15) [24] [0])) (wB (K:=(kx E 36 0)) (b:=false) ⟨[(24,vo 0 0 2 v13.2.length)],[(0,ro 0 93 2 v13.2.length (rf qE v13.2))]⟩ (opAt (rg f201 126) 1) [] [] 1 (o1 (ke v13.2.length)) rfl (qIC v13.2 v15 h16) (.inr ⟨(by kernel_rfl),qKl v15⟩) (by kernel_rfl))] 1 [] [(4,vo 1 0 2 v15.length)] [] [(1,ro 0 93 2 v15.length (rf qE v15))] ?_;obtain⟨v17,h18,hm⟩:=qB hm;obtain⟨g19,hm⟩:=qJ hm
   refine s_wu [qd 1 (dex (cen [(0,0)] [0] 1 1 (LA v13.2 v17) (FZ v13.2 v17) [26] [0])) (wB (K:=(kx E 36 0)) ⟨[(26,vo 0 0 2 v13.2.length)],[(0,ro 0 93 2 v13.2.length (rf qE v13.2))]⟩ (opAt (rg f201 254) 1) [(0,0)] [0] 1 o0 rfl (qDY v13.2 v17 h18) (.inl rfl) (by kernel_rfl))] [.len 0 v13.2.length] (o1 (And.intro (And.intro (Eq.refl v13.2.length) (Eq.refl v13.2.length)) (And.intro (MV g19) (Eq.refl v13.2.length)))) 2 [] [] [0] [(0,ro 0 93 2 v13.2.length (rf qE v17))] ?_;obtain⟨v20,h21,hm⟩:=qB hm;obtain⟨g22,hm⟩:=qJ hm
   refine s_vn [qd 2 (dex (cen [] [] 2 0 (qDJ v20) (BJ v20) [29] [0])) (wB (K:=(kx E 36 0)) (xs':=[.one (.lst v13.2.length (rf qE v17))]) (b:=false) ⟨[(29,vo 0 0 2 v13.2.length)],[(0,ro 0 93 2 v13.2.length (rf qE v17))]⟩ (opAt (rg f201 510) 2) [] [] 2 (o1 (ke v13.2.length)) (by simp only[tl,rf,show v17.length=v13.2.length from(MV g19)]) (qIC v17 v20 h21) (.inr ⟨(by kernel_rfl),qKl v20⟩) (by kernel_rfl)),qd 3 (drw 1 1 (rf qE (v15++v20))) (apP qE dd v15 v20 v15.length v20.length 2 16 (v20.length<=v20.length) (ke _) rfl rfl (λ_=>rfl) (zW g22))] 2 ⟨[(4,vo 1 1 2 (v15.length+v20.length))],[(1,ro 1 93 2 (v15.length+v20.length) (rf qE (v15++v20)))]⟩ (q_sq ?_)
   refine s_va 3 [(34,vb (decide ((((v15.length+v20.length):Nat):Int)<3)))] (q_cq hm (λhm=>?_) (λhm=>?_))
   ·refine s_vn [] 3 ⟨[(2,vc (.emp))],[]⟩ (q_fn [.own 2 3 93 2 (rf qE [])] ⟨[(2,vo 3 0 2 0)],[(3,ro 0 93 2 0 (rf qE []))]⟩ o0 ?_);refine q_fn [.len 3 (([]:List qA).length)] ⟨[(2,vo 3 0 2 (([]:List qA).length))],[(3,ro 0 93 2 (([]:List qA).length) (rf qE []))]⟩ (o1 (And.intro (show 0=([]:List qA).length from rfl) (show 0=([]:List qA).length from rfl))) ?_;obtain rfl:=oi hm;exact q_sw 3 0 (q_rt q_rm)
   ·refine q_sk (s_vv [] 3 [4,34] [(2,vo 1 1 2 (v15.length+v20.length))] ?_);refine q_fn [.len 1 ((v15++v20).length)] ⟨[(2,vo 1 1 2 ((v15++v20).length))],[(1,ro 1 93 2 ((v15++v20).length) (rf qE (v15++v20)))]⟩ (o1 (And.intro (Eq.symm (show(v15++v20).length=(v15.length+v20.length) from(zX rfl rfl))) (Eq.symm (show(v15++v20).length=(v15.length+v20.length) from(zX rfl rfl))))) ?_;obtain rfl:=oi hm;exact q_sw 1 0 (q_rt q_rm)
 ·rcases bif_c hm with⟨b2,hm⟩|⟨b2,hm⟩
  ·exact q_vv [qf 3 b2] 0 [] [(17,vb true)] (q_J (true) hm)
  ·rcases bif_c hm with⟨b3,hm⟩|⟨b3,hm⟩
   ·exact q_vv [qf 3 b2,qf 8 b3] 0 [] [(17,vb true)] (q_J (true) hm)
   ·obtain⟨v4,h5,hm⟩:=qB hm;exact q_vv [qf 3 b2,qf 8 b3,qk 10 [13,14] 0 ⟨[(13,vb false),(14,vc (tl qE dd a1))],[]⟩ (OE a1 v4 h5)] 0 [] [(17,vb (!v4))] (q_J (!v4) hm)
end Saw
end Go.SL
