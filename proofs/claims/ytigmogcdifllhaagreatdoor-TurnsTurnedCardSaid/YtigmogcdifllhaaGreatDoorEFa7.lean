import Derived.Test.YtigmogcdifllhaaGreatDoorEBase
import Derived.Test.YtigmogcdifllhaaGreatDoorEFa6
import Derived.Test.YtigmogcdifllhaaGreatDoorEFa1
import Derived.Test.YtigmogcdifllhaaGreatDoorEFa5
import Derived.Test.YtigmogcdifllhaaGreatDoorEFa3
set_option linter.unusedVariables false
set_option linter.unusedSimpArgs false
namespace Go.SL
namespace Saw
open Go.Proofs Go.Proofs.Tryz
set_option maxHeartbeats 4000000
set_option maxRecDepth 100000
def qQ0 (r:Bool):V:=vb r
def qQ5 (r:Bool):List (Nat×(Nat×O)):=[]
def qLm (x3:Bool):St:=
 ⟨[(2,vb x3)],[]⟩
theorem qFw (a1:Int) (r:Bool) (hm:GN a1=some r):CtX Tryz.prog globs 169 0 0 [.one (ci a1)] [] (qQ0 r) (qQ5 r):=by
 unfold GN at hm;refine q_E f169 9 λE=>?_;refine s_vn [] 0 ⟨[(0,vi a1)],[]⟩ (q_jn (qLm) (λp=>CG p=some r) ?_ ?_)
 ·rintro x3 hm;obtain rfl:=oi hm;exact q_rt q_rm
 ·rcases bif_c hm with⟨b2,hm⟩|⟨b2,hm⟩
  ·exact q_vn [qf 2 b2] 0 ⟨[(2,vb (decide (a1<=1000000)))],[]⟩ (q_J (decide (a1<=1000000)) hm)
  ·exact q_vn [qf 2 b2] 0 ⟨[(2,vb false)],[]⟩ (q_J (false) hm)
def qQr (r:Bool):V:=vb r
def qQf (r:Bool):List (Nat×(Nat×O)):=[]
def qLO (x3:Bool):St:=
 ⟨[(2,vb x3)],[]⟩
theorem qAf (a1:Int) (r:Bool) (hm:GQ a1=some r):CtX Tryz.prog globs 168 0 0 [.one (ci a1)] [] (qQr r) (qQf r):=by
 unfold GQ at hm;refine q_E f168 9 λE=>?_;refine s_vn [] 0 ⟨[(0,vi a1)],[]⟩ (q_jn (qLO) (λp=>FH p=some r) ?_ ?_)
 ·rintro x3 hm;obtain rfl:=oi hm;exact q_rt q_rm
 ·rcases bif_c hm with⟨b2,hm⟩|⟨b2,hm⟩
  ·exact q_vn [qf 2 b2] 0 ⟨[(2,vb (decide (a1<=20000)))],[]⟩ (q_J (decide (a1<=20000)) hm)
  ·exact q_vn [qf 2 b2] 0 ⟨[(2,vb false)],[]⟩ (q_J (false) hm)
def qSi (r:Int):V:=vi r
def qSp (r:Int):List (Nat×(Nat×O)):=[]
def qMk (x20:Bool):St:=
 ⟨[(60,vb x20)],[]⟩
def qM4 (a2:Rates) (x12:Bool):St:=
 ⟨[(3,vp 1 0),(36,vb x12)],[(1,bx 41 (wC a2))]⟩
def qMZ (a1:Saw) (a2:Rates) (x6:Bool):St:=
 ⟨[(2,vp 0 0),(3,vp 1 0),(22,vb x6)],[(0,bx 39 (jW a1)),(1,bx 41 (wC a2))]⟩
theorem qHF (a1:Saw) (a2:Rates) (r:Int) (hm:NJ a1 a2=some r):CtX Tryz.prog globs 108 0 0 [.agg (jW a1),.agg (wC a2)] [] (qSi r) (qSp r):=by
 unfold NJ at hm;refine q_E f108 61 λE=>?_;refine s_vn [] 0 ⟨[(2,vp 0 0),(3,vp 1 0)],[(0,bx 39 (jW a1)),(1,bx 41 (wC a2))]⟩ (q_sq ?_);refine q_jn (qMZ a1 a2) (λp=>PL a1 a2 p=some r) ?_ ?_
 ·rintro x6 hm;refine q_cq hm (λhm=>?_) (λhm=>?_)
  ·refine s_vn [] 2 ⟨[(4,vi 9)],[]⟩ ?_;obtain rfl:=oi hm;exact q_rt q_rm
  ·refine q_sk (q_sq ?_);refine q_jn (qM4 a2) (λp=>GE a2 p=some r) ?_ ?_
   ·rintro x12 hm;refine q_cq hm (λhm=>?_) (λhm=>?_)
    ·refine s_vn [] 2 ⟨[(4,vi 9)],[]⟩ ?_;obtain rfl:=oi hm;exact q_rt q_rm
    ·refine q_sk (q_sq ?_);refine q_jn (qMk) (λp=>JU p=some r) ?_ ?_
     ·rintro x20 hm;refine q_cq hm (λhm=>?_) (λhm=>?_)
      ·refine s_vn [] 2 ⟨[(4,vi 9)],[]⟩ ?_;obtain rfl:=oi hm;exact q_rt q_rm
      ·refine q_sk (s_vn [] 2 ⟨[(4,vi 0)],[]⟩ ?_);obtain rfl:=oi hm;exact q_rt q_rm
     ·rcases bif_c hm with⟨b14,hm⟩|⟨b14,hm⟩
      ·exact q_vn [qf 3 b14] 2 ⟨[(60,vb true)],[]⟩ (q_J (true) hm)
      ·rcases bif_c hm with⟨b15,hm⟩|⟨b15,hm⟩
       ·exact q_vn [qf 3 b14,qf 8 b15] 2 ⟨[(60,vb true)],[]⟩ (q_J (true) hm)
       ·rcases bif_c hm with⟨b16,hm⟩|⟨b16,hm⟩
        ·exact q_vn [qf 3 b14,qf 8 b15,qf 13 b16] 2 ⟨[(60,vb true)],[]⟩ (q_J (true) hm)
        ·rcases bif_c hm with⟨b17,hm⟩|⟨b17,hm⟩
         ·exact q_vn [qf 3 b14,qf 8 b15,qf 13 b16,qf 18 b17] 2 ⟨[(60,vb true)],[]⟩ (q_J (true) hm)
         ·obtain⟨v18,h19,hm⟩:=qC hm;exact q_vn [qf 3 b14,qf 8 b15,qf 13 b16,qf 18 b17,qk 21 [55,57] 2 ⟨[(55,vb false),(57,vi a2.Fine)],[]⟩ (qFw a2.Fine v18 h19)] 2 ⟨[(60,vb (!v18))],[]⟩ (q_J (!v18) hm)
   ·rcases bif_c hm with⟨b8,hm⟩|⟨b8,hm⟩
    ·exact q_vu [qf 3 b8] 2 [2,22] [(36,vb true)] [0] [] (q_J (true) hm)
    ·rcases bif_c hm with⟨b9,hm⟩|⟨b9,hm⟩
     ·exact q_vu [qf 3 b8,qf 8 b9] 2 [2,22] [(36,vb true)] [0] [] (q_J (true) hm)
     ·obtain⟨v10,h11,hm⟩:=qC hm;exact q_vu [qf 3 b8,qf 8 b9,qk 11 [31,33] 2 ⟨[(31,vb false),(33,vi a1.Step)],[]⟩ (qAf a1.Step v10 h11)] 2 [2,22] [(36,vb (!v10))] [0] [] (q_J (!v10) hm)
 ·rcases bif_c hm with⟨b3,hm⟩|⟨b3,hm⟩
  ·exact q_vv [qf 3 b3] 2 [] [(22,vb true)] (q_J (true) hm)
  ·rcases bif_c hm with⟨b4,hm⟩|⟨b4,hm⟩
   ·exact q_vv [qf 3 b3,qf 8 b4] 2 [] [(22,vb true)] (q_J (true) hm)
   ·rcases bif_c hm with⟨b5,hm⟩|⟨b5,hm⟩
    ·exact q_vv [qf 3 b3,qf 8 b4,qf 13 b5] 2 [] [(22,vb true)] (q_J (true) hm)
    ·exact q_vv [qf 3 b3,qf 8 b4,qf 13 b5] 2 [] [(22,vb (decide (a1.Trim>20)))] (q_J (decide (a1.Trim>20)) hm)
open Go.Proofs Go.Proofs.Tryz
def EH (r:Int):V:=vi r
def SM (r:Int):List (Nat×(Nat×O)):=[]
def qH3 (a1:Rect) (x5:Int) (x9:Bool):St:=
 ⟨[(33,va (qT a1)),(34,vi x5),(42,vb x9)],[]⟩
def DG (a1:Rect) (x5:Int):St:=
 ⟨[(33,va (qT a1)),(34,vi x5)],[]⟩
def qAl :St:=
 ⟨[],[]⟩
def qIh (a1:Rect) (x3:Bool):St:=
 ⟨[(1,vp 0 0),(20,vb x3)],[(0,bx 55 (qT a1))]⟩
theorem qHp (E:Env 0) (a1:Rect):∀(n:Nat) (x5:Int) (res:Int⊕Unit),jZ a1 n x5=some res->HL (kx E 44 0) (nd f109 116) (wJ 0 (λo=>qAl) (λv st=>RetQ Tryz.prog f109 (EH v) (SM v) .ret st) res) n (DG a1 x5):=by
 intro n
 induction n with
 |zero=>
  intro x5 res hm;cases hm
 |succ n ih=>
  intro x5 res hm;refine qS (s_va 1 [(35,vb (decide (x5<4)))] ?_);refine q_sq (q_cq hm (λhm=>?_) (λhm=>?_))
  ·refine q_sk (q_sq ?_);refine q_bk 1 ?_;obtain⟨g7,hm⟩:=qK hm;refine s_vv [qi 0 g7] 1 [35] [(4,vi (([a1.X.A,a1.X.B,a1.Y.A,a1.Y.B]:List Int).getD x5.toNat 0))] (q_jn (qH3 a1 x5) (λp=>UP x5 (jZ a1 n) p=some res) ?_ ?_)
   ·rintro x9 hm;refine q_cq hm (λhm=>?_) (λhm=>?_)
    ·refine s_vn [] 1 ⟨[(2,vi 9)],[]⟩ ?_;obtain rfl:=oi hm;refine q_rt (zK 9 ?_);exact q_rm
    ·refine q_sk (q_vv [] 1 [34,42] [(34,vi (w64 (x5+1)))] ?_);exact q_hl (DG a1 (w64 (x5+1))) (ih (w64 (x5+1)) _ hm)
   ·rcases bif_c hm with⟨b8,hm⟩|⟨b8,hm⟩
    ·exact q_vv [qf 2 b8] 1 [4] [(42,vb true)] (q_J (true) hm)
    ·exact q_vv [qf 2 b8] 1 [4] [(42,vb (decide ((([a1.X.A,a1.X.B,a1.Y.A,a1.Y.B]:List Int).getD x5.toNat 0)>600)))] (q_J (decide ((([a1.X.A,a1.X.B,a1.Y.A,a1.Y.B]:List Int).getD x5.toNat 0)>600)) hm)
  ·refine q_ex 0 ?_;obtain rfl:=oi hm;exact q_l1 ()
theorem qJV (a1:Rect) (r:Int) (hm:FA a1=some r):CtX Tryz.prog globs 109 0 0 [.agg (qT a1)] [] (EH r) (SM r):=by
 unfold FA at hm;refine q_E f109 44 λE=>?_;refine s_vn [] 0 ⟨[(1,vp 0 0)],[(0,bx 55 (qT a1))]⟩ (q_sq ?_);refine q_jn (qIh a1) (λp=>TT a1 p=some r) ?_ ?_
 ·rintro x3 hm;refine q_cq hm (λhm=>?_) (λhm=>?_)
  ·refine s_vn [] 1 ⟨[(2,vi 19)],[]⟩ ?_;obtain rfl:=oi hm;exact q_rt q_rm
  ·refine q_sk (q_sq ?_);refine s_vn [] 1 ⟨[(33,va (qT a1)),(34,vi 0)],[]⟩ ?_;obtain⟨u13,h12,hm⟩:=qC hm;refine zP (nd f109 116) 0 (by kernel_rfl) FUEL (λo=>qAl) (λv st=>RetQ Tryz.prog f109 (EH v) (SM v) .ret st) u13 (q_hl (DG a1 0) (qHp E a1 FUEL 0 u13 h12)) ?_ ?_
   ·rintro v14 rfl st hr;obtain rfl:=oi hm;exact hr
   ·rintro o11 rfl;replace hm:_=some r:=hm;refine s_vn [] 1 ⟨[(2,vi 0)],[]⟩ ?_;obtain rfl:=oi hm;exact q_rt q_rm
 ·rcases bif_c hm with⟨b2,hm⟩|⟨b2,hm⟩
  ·exact q_vv [qf 7 b2] 1 [] [(20,vb true)] (q_J (true) hm)
  ·exact q_vv [qf 7 b2] 1 [] [(20,vb (decide (a1.Y.A≥a1.Y.B)))] (q_J (decide (a1.Y.A≥a1.Y.B)) hm)
def qUr (r:Int):V:=vi r
def qUB (r:Int):List (Nat×(Nat×O)):=[]
theorem qRW (a1:List qN) (a2:List qG) (a3:List qF) (a4:Rect) (a5:Saw) (a6:Rates) (r:Int) (hm:TL a1 a2 a3 a4 a5 a6=some r):CtX Tryz.prog globs 53 0 0 [.one (tl qR dd a1),.one (tl qM dd a2),.one (tl qP dd a3),.agg (qT a4),.agg (jW a5),.agg (wC a6)] [] (qUr r) (qUB r):=by
 unfold TL at hm;refine q_E f53 40 λE=>?_;refine s_vn [] 0 ⟨[(0,vc (tl qR dd a1)),(1,vc (tl qM dd a2)),(2,vc (tl qP dd a3)),(9,vp 0 0),(10,vp 1 0),(11,vp 2 0)],[(0,bx 55 (qT a4)),(1,bx 39 (jW a5)),(2,bx 41 (wC a6))]⟩ (q_sq ?_);obtain⟨v7,h8,hm⟩:=qC hm;refine s_vv [qc 1 [17] 3 (YA a1 v7 h8)] 3 [0] [(13,vi v7)] (s_va 3 [(20,vb (v7 !=0))] ?_);refine q_cq hm (λhm=>?_) (λhm=>?_)
 ·refine s_vn [] 3 ⟨[(12,vi v7)],[]⟩ ?_;obtain rfl:=oi hm;exact q_rt q_rm
 ·refine q_sk (q_sq ?_);obtain⟨v10,h11,hm⟩:=qC hm;refine s_vv [qc 1 [22] 3 (WW a2 v10 h11)] 3 [1,13,20] [(14,vi v10)] (s_va 3 [(25,vb (v10 !=0))] ?_);refine q_cq hm (λhm=>?_) (λhm=>?_)
  ·refine s_vn [] 3 ⟨[(12,vi v10)],[]⟩ ?_;obtain rfl:=oi hm;exact q_rt q_rm
  ·refine q_sk (q_sq ?_);obtain⟨v13,h14,hm⟩:=qC hm;refine s_vv [qc 1 [27] 3 (YF a3 v13 h14)] 3 [2,14,25] [(15,vi v13)] (s_va 3 [(30,vb (v13 !=0))] ?_);refine q_cq hm (λhm=>?_) (λhm=>?_)
   ·refine s_vn [] 3 ⟨[(12,vi v13)],[]⟩ ?_;obtain rfl:=oi hm;exact q_rt q_rm
   ·refine q_sk (q_sq ?_);obtain⟨v16,h17,hm⟩:=qC hm;refine s_vu [qc 2 [32,33] 3 (qHF a5 a6 v16 h17)] 3 [10,11,15,30] [(16,vi v16)] [1,2] [] (s_va 3 [(36,vb (v16 !=0))] ?_);refine q_cq hm (λhm=>?_) (λhm=>?_)
    ·refine s_vn [] 3 ⟨[(12,vi v16)],[]⟩ ?_;obtain rfl:=oi hm;exact q_rt q_rm
    ·refine q_sk ?_;obtain⟨v19,h20,hm⟩:=qC hm;refine s_vn [qc 1 [38] 3 (qJV a4 v19 h20)] 3 ⟨[(12,vi v19)],[]⟩ ?_;obtain rfl:=oi hm;exact q_rt q_rm
def qVO (r:Rect):V:=va (qT r)
def qWd (r:Rect):List (Nat×(Nat×O)):=[]
theorem qEp (a1:Rect) (a2:Int) (a3:Int) (r:Rect) (hm:OT a1 a2 a3=some r):CtX Tryz.prog globs 174 0 0 [.agg (qT a1),.one (ci a2),.one (ci a3)] [] (qVO r) (qWd r):=by
 unfold OT at hm;refine q_E f174 21 λE=>?_;refine s_vn [] 0 ⟨[(1,vi a2),(2,vi a3),(3,vp 0 0),(6,vp 1 0)],[(0,bx 55 (qT a1)),(1,bx 55 [ci 0,ci 0,ci 0,ci 0])]⟩ (s_vn [] 2 ⟨[(6,vp 1 0)],[(1,bx 55 [ci (w64 (a1.X.A+a2)),ci (w64 (a1.X.A+a3)),ci a1.Y.A,ci a1.Y.B])]⟩ ?_);obtain rfl:=oi hm;exact q_rt q_rm
open Go.Proofs Go.Proofs.Tryz
def qAB (r:List Node):V:=vo 0 0 2 r.length
def KM (r:List Node):List (Nat×(Nat×O)):=[(0,ro 0 156 2 r.length (rf qL r))]
theorem qIv (r:List Node):ZA (KM r):=by
 intro i k o h;unfold KM at h;rw[look_cons] at h;split at h
 ·cases h;exact λ_ _=>rfl
 ·cases h
theorem qHj (a1:List Node) (r:List Node) (hm:TW a1=some r):CtX Tryz.prog globs 217 0 0 [.one (tl qL dd a1)] [] (qAB r) (KM r):=by
 unfold TW at hm;obtain⟨g1,hm⟩:=qK hm;obtain rfl:=kC hm;refine qBL (fn:=f217) (c:=nd f217 1) (nt:=8) (by kernel_rfl) (by kernel_rfl) (by kernel_rfl) (by kernel_rfl) λE=>?_;refine R_sq f217 2 3 (by kernel_rfl) (R_rn f217 2 0 [] [] 0 ⟨[(0,vc (tl qL dd a1))],[]⟩ o0 (by kernel_rfl) (by kernel_rfl) ?_);refine R_sq f217 6 7 (by kernel_rfl) (R_sq f217 12 13 (by kernel_rfl) ?_);refine qPM f217 12 1 1 ⟨[(0,vc (tl qL dd a1)),(3,vc (tl qL dd a1))],[]⟩ 56 56 156 4 (.tmp 3) a1.length (rf qL a1) (by kernel_rfl) (by kernel_rfl) (by kernel_rfl) (λb hb=>?_)
 refine R_cn f217 (.tmp 4) 26 27 (by kernel_rfl) b (by kernel_rfl) (λb6=>?_) (λb6=>?_)
 ·obtain rfl:a1=[]:=ue (hb b6);refine R_sq f217 52 53 (by kernel_rfl) (R_rn f217 52 2 [] [.own 2 0 156 2 (rf qL [])] 0 ⟨[(2,vo 0 0 2 0)],[(0,ro 0 156 2 0 (rf qL []))]⟩ o0 (by kernel_rfl) (by kernel_rfl) ?_);exact qAe (by kernel_rfl) (LU (by kernel_rfl) (by kernel_rfl))
 ·refine qG3 (by kernel_rfl) (R_sq f217 14 15 (by kernel_rfl) ?_);refine R_rn f217 14 3 [(0,drw 0 0 (rf qL [])),(2,drw 0 1 (rf qL ([]++a1)))] [.len 0 a1.length] 0 ⟨[(2,vo 0 1 2 a1.length)],[(0,ro 1 156 2 a1.length (rf qL ([]++a1)))]⟩ (o1 (And.intro (And.intro (litP qL dd 2 (λ_=>rfl) ([]:List Node) 0 rfl) (apP qL dd ([]:List Node) a1 0 a1.length 2 16 True trivial rfl rfl (λ_=>rfl) (by have:=zZ g1;rw[kz];exact this))) (And.intro (And.intro (kz a1.length) (kz a1.length)) (kz a1.length)))) (by kernel_rfl) (by kernel_rfl) (qAe (by kernel_rfl) ?_);exact LU (by kernel_rfl) (by kernel_rfl)
def qDB (a1:List (List Node)) (a2:List Node) (r:(List (List Node))×(List (List Node))):V:=vo 0 0 1 r.2.length
def qDD (a1:List (List Node)) (a2:List Node) (r:(List (List Node))×(List (List Node))):List (Nat×(Nat×O)):=[(0,ro 0 56 1 r.2.length (rf (qU qL) r.2)),(1,ro 0 156 2 a2.length (rf qL a2))]
theorem qKC (a1:List (List Node)) (a2:List Node) (r:(List (List Node))×(List (List Node))) (hm:FL a1 a2=some r):CtX Tryz.prog globs 175 2 0 [.one (.own 0 0 1 a1.length),.one (.own 1 0 2 a2.length)] [(0,ro 0 56 1 a1.length (rf (qU qL) a1)),(1,ro 0 156 2 a2.length (rf qL a2))] (qDB a1 a2 r) (qDD a1 a2 r):=by
 unfold FL at hm;refine q_E f175 10 λE=>?_;refine s_vn [] 2 ⟨[(0,vo 0 0 1 a1.length),(1,vo 1 0 2 a2.length)],[(0,ro 0 56 1 a1.length (rf (qU qL) a1)),(1,ro 0 156 2 a2.length (rf qL a2))]⟩ ?_;obtain⟨v3,h4,hm⟩:=qC hm;obtain⟨g5,hm⟩:=qK hm
 refine s_vu [qd 2 (dex (cen [] [] 2 0 (qAB v3) (KM v3) [6] [1])) (wK (K:=(kx E 10 0)) (b:=false) ⟨[(6,vo 1 0 2 a2.length)],[(1,ro 0 156 2 a2.length (rf qL a2))]⟩ (opAt (rg f175 6) 2) [] [] 2 (o1 (ke a2.length)) rfl (qHj a2 v3 h4) (.inr ⟨(by kernel_rfl),qIv v3⟩) (by kernel_rfl)),qd 3 (dpr [.frz 2] (drw 3 0 (rf (qU qL) [v3]))) (ke v3.length),qd 3 dN (litP (qU qL) dd 1 (λ_=>rfl) ([v3]:List (List Node)) 1 rfl),qd 4 (drw 0 1 (rf (qU qL) (a1++[v3]))) (apP (qU qL) dd a1 ([v3]:List (List Node)) a1.length 1 1 24 (1<=1) (ke _) rfl rfl (λ_=>rfl) (zZ g5))] 2 [0,1] [(4,vo 0 1 1 (a1.length+1))] [0] [(0,ro 1 56 1 (a1.length+1) (rf (qU qL) (a1++[v3])))] ?_
 refine q_fu [.len 0 ((a1++[v3]).length)] [4] [(4,vo 0 1 1 ((a1++[v3]).length))] [0] [(0,ro 1 56 1 ((a1++[v3]).length) (rf (qU qL) (a1++[v3])))] (o1 (And.intro (Eq.symm (show(a1++[v3]).length=(a1.length+1) from(wA rfl rfl))) (Eq.symm (show(a1++[v3]).length=(a1.length+1) from(wA rfl rfl))))) ?_;obtain rfl:=oi hm;exact q_rt q_rm
def qSI (r:Box×Bool):V:= .tup [.agg (ZG r.1),.one (cb r.2)]
def qSu (r:Box×Bool):List (Nat×(Nat×O)):=[]
def qMO (v3:Span) (v5:Span) (v7:Span) (x17:Bool):St:=
 ⟨[(4,vp 2 0),(6,vp 3 0),(35,vb x17)],[(2,bx 85 [ci 0,ci 0,ci 0,ci 0,ci 0,ci 0]),(3,bx 85 [ci v3.A,ci v3.B,ci v5.A,ci v5.B,ci v7.A,ci v7.B])]⟩
theorem qQW (a1:Box) (a2:Box) (r:Box×Bool) (hm:qB1 a1 a2=some r):CtX Tryz.prog globs 291 0 0 [.agg (ZG a1),.agg (ZG a2)] [] (qSI r) (qSu r):=by
 unfold qB1 at hm;refine q_E f291 38 λE=>?_;refine s_vn [] 0 ⟨[(2,vp 0 0),(3,vp 1 0),(4,vp 2 0)],[(0,bx 85 (ZG a1)),(1,bx 85 (ZG a2)),(2,bx 85 [ci 0,ci 0,ci 0,ci 0,ci 0,ci 0])]⟩ ?_;obtain⟨v3,h4,hm⟩:=qC hm;obtain⟨v5,h6,hm⟩:=qC hm;obtain⟨v7,h8,hm⟩:=qC hm;refine s_du [qc 4 [8,10] 3 (PO a1.X a2.X v3 h4),qc 9 [13,15] 3 (PO a1.Y a2.Y v5 h6),qc 14 [18,20] 3 (PO a1.Z a2.Z v7 h8)] [0,1,0,4,15,0,32,0,128,511,0,1024,0,4096,16383,32767,0,131071] 3 [2,3] [(6,vp 3 0)] [0,1] [(3,bx 85 [ci v3.A,ci v3.B,ci v5.A,ci v5.B,ci v7.A,ci v7.B])] (q_sq ?_)
 refine q_jn (qMO v3 v5 v7) (λp=>VW v3 v5 v7 p=some r) ?_ ?_
 ·rintro x17 hm;refine q_cq hm (λhm=>?_) (λhm=>?_)
  ·refine s_vu [] 4 [6,35] [(5,vb false)] [3] [] ?_;obtain rfl:=oi hm;exact q_rt q_rm
  ·refine q_sk (s_vu [] 4 [6,35] [(5,vb true)] [2,3] [(2,bx 85 [ci v3.A,ci v3.B,ci v5.A,ci v5.B,ci v7.A,ci v7.B])] ?_);obtain rfl:=oi hm;exact q_rt q_rm
 ·obtain⟨v9,h10,hm⟩:=qC hm;rcases bif_c hm with⟨b11,hm⟩|⟨b11,hm⟩
  ·exact q_vv [qc 2 [24] 4 (wN v3 v9 h10),qf 3 b11] 4 [] [(35,vb true)] (q_J (true) hm)
  ·obtain⟨v12,h13,hm⟩:=qC hm;rcases bif_c hm with⟨b14,hm⟩|⟨b14,hm⟩
   ·exact q_vv [qc 2 [24] 4 (wN v3 v9 h10),qf 3 b11,qk 6 [26,28] 4 ⟨[(26,vb false),(28,va (qJ v5))],[]⟩ (wN v5 v12 h13),qf 8 b14] 4 [] [(35,vb true)] (q_J (true) hm)
   ·obtain⟨v15,h16,hm⟩:=qC hm;exact q_vv [qc 2 [24] 4 (wN v3 v9 h10),qf 3 b11,qk 6 [26,28] 4 ⟨[(26,vb false),(28,va (qJ v5))],[]⟩ (wN v5 v12 h13),qf 8 b14,qk 11 [31,33] 4 ⟨[(31,vb false),(33,va (qJ v7))],[]⟩ (wN v7 v15 h16)] 4 [] [(35,vb v15)] (q_J (v15) hm)
open Go.Proofs Go.Proofs.Tryz
def qMQ (r:Bool):V:=vb r
def qM2 (r:Bool):List (Nat×(Nat×O)):=[]
theorem qDu (a1:qG) (a2:Box) (r:Bool) (hm:PM a1 a2=some r):CtX Tryz.prog globs 281 0 0 [.agg (qM a1),.agg (ZG a2)] [] (qMQ r) (qM2 r):=by
 unfold PM at hm;refine q_E f281 15 λE=>?_;refine s_vn [] 0 ⟨[(2,vp 0 0),(3,vp 1 0)],[(0,bx 87 (qM a1)),(1,bx 85 (ZG a2))]⟩ ?_;obtain⟨v3,h4,hm⟩:=qC hm;refine s_vn [qc 3 [9,10] 2 (qQW a1.Box a2 v3 h4)] 2 ⟨[(6,vb v3.2)],[]⟩ (s_vn [] 3 ⟨[(4,vb v3.2)],[]⟩ ?_);obtain rfl:=oi hm;exact q_rt q_rm
def qNz (r:Bool):V:=vb r
def qNs (r:Bool):List (Nat×(Nat×O)):=[]
def qJr (x5:Bool):St:=
 ⟨[(4,vb x5)],[]⟩
theorem qLd (a1:Span) (a2:Int) (r:Bool) (hm:SC a1 a2=some r):CtX Tryz.prog globs 282 0 0 [.agg (qJ a1),.one (ci a2)] [] (qNz r) (qNs r):=by
 unfold SC at hm;refine q_E f282 21 λE=>?_;refine s_vn [] 0 ⟨[(1,vi a2),(2,vp 0 0)],[(0,bx 53 (qJ a1))]⟩ (q_jn (qJr) (λp=>VC p=some r) ?_ ?_)
 ·rintro x5 hm;obtain rfl:=oi hm;exact q_rt q_rm
 ·rcases bif_c hm with⟨b3,hm⟩|⟨b3,hm⟩
  ·rcases bif_c hm with⟨b4,hm⟩|⟨b4,hm⟩
   ·exact q_vn [qf 3 b3,qf 10 b4] 1 ⟨[(4,vb (decide (a1.B<=a2)))],[]⟩ (q_J (decide (a1.B<=a2)) hm)
   ·exact q_vn [qf 3 b3,qf 10 b4] 1 ⟨[(4,vb false)],[]⟩ (q_J (false) hm)
  ·exact q_vn [qf 3 b3] 1 ⟨[(4,vb false)],[]⟩ (q_J (false) hm)
def CQ (r:Int×Bool):V:= .tup [.one (ci r.1),.one (cb r.2)]
def qAr (r:Int×Bool):List (Nat×(Nat×O)):=[]
def FS (a1:qF) (a2:Int) (x3:Int):St:=
 ⟨[(1,vi a2),(2,vp 0 0),(9,vc (tl qD dd a1.Lengths)),(10,vi (a1.Lengths.length:Int)),(11,vi x3)],[(0,bx 74 (qP a1))]⟩
def qCI :St:=
 ⟨[],[]⟩
theorem qJi (E:Env 0) (a1:qF) (a2:Int):∀(n:Nat) (x3:Int) (res:(Int×Bool)⊕Unit),JV a1 a2 n x3=some res->HL (kx E 30 0) (nd f283 52) (wJ 0 (λo=>qCI) (λv st=>RetQ Tryz.prog f283 (CQ v) (qAr v) .ret st) res) n (FS a1 a2 x3):=by
 intro n
 induction n with
 |zero=>
  intro x3 res hm;cases hm
 |succ n ih=>
  intro x3 res hm;refine qS (s_va 1 [(12,vb (decide (x3<(a1.Lengths.length:Int))))] ?_);refine q_sq (q_cq hm (λhm=>?_) (λhm=>?_))
  ·refine q_sk (q_sq ?_);refine q_bk 1 ?_;obtain⟨g5,hm⟩:=qK hm;refine s_vv [qi 1 g5] 1 [12] [(6,vi x3),(7,vi (a1.Lengths.getD x3.toNat dd))] (q_sq ?_);refine s_vv [] 1 [7] [(18,vb ((a1.Lengths.getD x3.toNat dd) !=a2))] (q_cq hm (λhm=>?_) (λhm=>?_))
   ·refine q_ex 1 (q_vv [] 1 [6,11,18] [(11,vi (w64 (x3+1)))] ?_);exact q_hl (FS a1 a2 (w64 (x3+1))) (ih (w64 (x3+1)) _ hm)
   ·refine q_sk (q_sq ?_);refine s_vv [] 1 [1,9,10,11,18] [(23,vb (decide (x3≥(a1.Prices.length:Int))))] (q_cq hm (λhm=>?_) (λhm=>?_))
    ·refine s_vn [] 1 ⟨[(4,vi 0),(5,vb false)],[]⟩ ?_;obtain rfl:=oi hm;refine q_rt (zK (0,false) ?_);exact q_rm
    ·refine q_sk ?_;obtain⟨g8,hm⟩:=qK hm;refine s_vn [qi 3 g8] 1 ⟨[(4,vi (a1.Prices.getD x3.toNat dd)),(5,vb true)],[]⟩ ?_;obtain rfl:=oi hm;refine q_rt (zK ((a1.Prices.getD x3.toNat dd),true) ?_);exact q_rm
  ·refine q_ex 0 ?_;obtain rfl:=oi hm;exact q_l1 ()
theorem qMS (a1:qF) (a2:Int) (r:Int×Bool) (hm:BJ a1 a2=some r):CtX Tryz.prog globs 283 0 0 [.agg (qP a1),.one (ci a2)] [] (CQ r) (qAr r):=by
 unfold BJ at hm;refine q_E f283 30 λE=>?_;refine s_vn [] 0 ⟨[(1,vi a2),(2,vp 0 0)],[(0,bx 74 (qP a1))]⟩ (q_sq ?_);refine s_va 1 [(9,vc (tl qD dd a1.Lengths)),(10,vi (a1.Lengths.length:Int)),(11,vi 0)] ?_;obtain⟨u11,h10,hm⟩:=qC hm;refine zP (nd f283 52) 0 (by kernel_rfl) FUEL (λo=>qCI) (λv st=>RetQ Tryz.prog f283 (CQ v) (qAr v) .ret st) u11 (q_hl (FS a1 a2 0) (qJi E a1 a2 FUEL 0 u11 h10)) ?_ ?_
 ·rintro v12 rfl st hr;obtain rfl:=oi hm;exact hr
 ·rintro o9 rfl;replace hm:_=some r:=hm;refine s_vn [] 1 ⟨[(4,vi 0),(5,vb false)],[]⟩ ?_;obtain rfl:=oi hm;exact q_rt q_rm
open Go.Proofs Go.Proofs.Tryz
def qET (r:Box):V:=va (ZG r)
def BA (r:Box):List (Nat×(Nat×O)):=[]
theorem qNE (r:Box):ZA (BA r):=by
 intro i k o h;unfold BA at h;cases h
theorem qDO (a1:zG) (a2:Span) (r:Box) (hm:MW a1 a2=some r):CtX Tryz.prog globs 280 0 0 [.agg (MC a1),.agg (qJ a2)] [] (qET r) (BA r):=by
 unfold MW at hm;refine q_E f280 13 λE=>?_;refine s_vn [] 0 ⟨[(2,vp 0 0),(3,vp 1 0),(4,vp 2 0)],[(0,bx 282 (MC a1)),(1,bx 53 (qJ a2)),(2,bx 85 [ci 0,ci 0,ci 0,ci 0,ci 0,ci 0])]⟩ (s_vn [] 3 ⟨[(4,vp 2 0)],[(2,bx 85 [ci a1.rect.X.A,ci a1.rect.X.B,ci a1.rect.Y.A,ci a1.rect.Y.B,ci a2.A,ci a2.B])]⟩ ?_);obtain rfl:=oi hm;exact q_rt q_rm
def qSy (r:Int):V:=vi r
def qSh (r:Int):List (Nat×(Nat×O)):=[]
def MG (a1:List qZ) (a2:Span) (x4:Int):St:=
 ⟨[(3,vp 0 0),(8,vc (tl zI dd a1)),(9,vi (a1.length:Int)),(10,vi x4)],[(0,bx 53 (qJ a2))]⟩
def qNn (a1:List qZ) (a2:Span) (x4:Int) (x10:Int):St:=
 (MG a1 a2 x4).up [] [(5,vi x10)] [] []
def qM0 (a1:List qZ) (a2:Span) (x3:Int) (x4:Int) (x8:Bool):St:=
 (MG a1 a2 x4).up [] [(5,vi x3),(7,vp 1 0),(27,vb x8)] [] [(1,bx 305 (zI (a1.getD x4.toNat dd)))]
def IJ (a1:List qZ) (a2:Span) (x3:Int) (x4:Int):St:=
 (MG a1 a2 x4).up [] [(5,vi x3)] [] []
def qEv (x11:Int):St:=
 ⟨[(5,vi x11)],[]⟩
theorem qLu (E:Env 0) (a1:List qZ) (a2:Span):∀(n:Nat) (x3:Int) (x4:Int) (res:Int),QT a1 a2 n x3 x4=some res->HL (kx E 34 0) (nd f284 116) (zM 0 qEv res) n (IJ a1 a2 x3 x4):=by
 intro n
 induction n with
 |zero=>
  intro x3 x4 res hm;cases hm
 |succ n ih=>
  intro x3 x4 res hm;refine qS (s_va 1 [(11,vb (decide (x4<(a1.length:Int))))] ?_);refine q_sq (q_cq hm (λhm=>?_) (λhm=>?_))
  ·refine q_sk (q_jn (qNn a1 a2 x4) (λp=>qBU x4 (QT a1 a2 n) p=some res) ?_ ?_)
   ·rintro x10 hm;exact q_vv [] 2 [10] [(10,vi (w64 (x4+1)))] (q_hl (IJ a1 a2 x10 (w64 (x4+1))) (ih x10 (w64 (x4+1)) _ hm))
   ·refine q_bk 1 ?_;obtain⟨g6,hm⟩:=qK hm;refine s_vu [qi 0 g6] 1 [11] [(7,vp 1 0)] [] [(1,bx 305 (zI (a1.getD x4.toNat dd)))] (q_jn (qM0 a1 a2 x3 x4) (λp=>qBl a1 x3 x4 (QT a1 a2 n) p=some res) ?_ ?_)
    ·rintro x8 hm;refine q_cq hm (λhm=>?_) (λhm=>?_)
     ·exact q_vu [] 2 [5,7,27] [(5,vi (imax x3 ((a1.getD x4.toNat dd).lack)))] [1] [] (q_J (imax x3 ((a1.getD x4.toNat dd).lack)) hm)
     ·exact q_sk (q_J (x3) hm)
    ·rcases bif_c hm with⟨b7,hm⟩|⟨b7,hm⟩
     ·exact q_vv [qf 6 b7] 2 [] [(27,vb (decide (a2.A<(((a1.getD x4.toNat dd).z).B))))] (q_J (decide (a2.A<(((a1.getD x4.toNat dd).z).B))) hm)
     ·exact q_vv [qf 6 b7] 2 [] [(27,vb false)] (q_J (false) hm)
  ·refine q_ex 0 ?_;obtain rfl:=oi hm;exact q_l0
theorem qQ4 (a1:List qZ) (a2:Span) (r:Int) (hm:AA a1 a2=some r):CtX Tryz.prog globs 284 0 0 [.one (tl zI dd a1),.agg (qJ a2)] [] (qSy r) (qSh r):=by
 unfold AA at hm;refine q_E f284 34 λE=>?_;refine s_vn [] 0 ⟨[(0,vc (tl zI dd a1)),(3,vp 0 0)],[(0,bx 53 (qJ a2))]⟩ (s_va 1 [(5,vi 0)] ?_);refine q_sq (s_vv [] 1 [0] [(8,vc (tl zI dd a1)),(9,vi (a1.length:Int)),(10,vi 0)] ?_);obtain⟨o12,h13,hm⟩:=qC hm;refine zH (nd f284 116) 0 (by kernel_rfl) FUEL qEv o12 (q_hl (IJ a1 a2 0 0) (qLu E a1 a2 FUEL 0 0 o12 h13)) (s_vn [] 1 ⟨[(4,vi o12)],[]⟩ ?_);obtain rfl:=oi hm;exact q_rt q_rm
def TP (r:Int×Bool):V:= .tup [.one (ci r.1),.one (cb r.2)]
def WC (r:Int×Bool):List (Nat×(Nat×O)):=[]
theorem qJS (r:Int×Bool):ZA (WC r):=by
 intro i k o h;unfold WC at h;cases h
def qHK (a1:zG) (a3:Int) (v14:Box) (x17:Int) (x24:Int):St:=
 ⟨[(2,vi a3),(8,vi x24),(10,vp 2 0),(45,vc (tl qM dd a1.defects)),(46,vi (a1.defects.length:Int)),(47,vi x17)],[(2,bx 85 (ZG v14))]⟩
def GJ (a1:zG) (a3:Int) (v14:Box) (x16:Int) (x17:Int):St:=
 ⟨[(2,vi a3),(8,vi x16),(10,vp 2 0),(45,vc (tl qM dd a1.defects)),(46,vi (a1.defects.length:Int)),(47,vi x17)],[(2,bx 85 (ZG v14))]⟩
def OU (x25:Int):St:=
 ⟨[(8,vi x25)],[]⟩
def qG5 (a1:zG) (a2:Span) (a3:Int) (v7:Int×Bool) (x12:Bool):St:=
 ⟨[(2,vi a3),(3,vp 0 0),(4,vp 1 0),(8,vi v7.1),(40,vb x12)],[(0,bx 282 (MC a1)),(1,bx 53 (qJ a2))]⟩
theorem qGS (E:Env 0) (a1:zG) (a3:Int) (v14:Box):∀(n:Nat) (x16:Int) (x17:Int) (res:(Int×Bool)⊕Int),jL a1 a3 v14 n x16 x17=some res->HL (kx E 64 0) (nd f264 1012) (wJ 0 OU (λv st=>RetQ Tryz.prog f264 (TP v) (WC v) .ret st) res) n (GJ a1 a3 v14 x16 x17):=by
 intro n
 induction n with
 |zero=>
  intro x16 x17 res hm;cases hm
 |succ n ih=>
  intro x16 x17 res hm;refine qS (s_va 3 [(48,vb (decide (x17<(a1.defects.length:Int))))] ?_);refine q_sq (q_cq hm (λhm=>?_) (λhm=>?_))
  ·refine q_sk (q_jn (qHK a1 a3 v14 x17) (λp=>NO x17 (jL a1 a3 v14 n) p=some res) ?_ ?_)
   ·rintro x24 hm;exact q_vv [] 4 [47] [(47,vi (w64 (x17+1)))] (q_hl (GJ a1 a3 v14 x24 (w64 (x17+1))) (ih x24 (w64 (x17+1)) _ hm))
   ·refine q_bk 1 ?_;obtain⟨g19,hm⟩:=qK hm;refine s_vu [qi 0 g19] 3 [48] [(12,vp 3 0)] [] [(3,bx 87 (qM (a1.defects.getD x17.toNat dd)))] (q_sq ?_);obtain⟨v20,h21,hm⟩:=qC hm;refine s_vv [qc 2 [51,52] 4 (qDu (a1.defects.getD x17.toNat dd) v14 v20 h21)] 4 [] [(54,vb (!v20))] (q_cq hm (λhm=>?_) (λhm=>?_))
    ·exact q_ex 1 (q_J (x16) hm)
    ·refine q_sk (q_sq ?_);refine s_vu [] 4 [12,54] [(57,vb (((a1.defects.getD x17.toNat dd).Kind)==3))] [3] [] (q_cq hm (λhm=>?_) (λhm=>?_))
     ·refine s_vn [] 4 ⟨[(6,vi 0),(7,vb false)],[]⟩ ?_;obtain rfl:=oi hm;refine q_rt (zK (0,false) ?_);exact q_rm
     ·refine q_sk (q_vv [] 4 [8,57] [(8,vi (w64 (x16-a3)))] ?_);exact q_J (w64 (x16-a3)) hm
  ·refine q_ex 0 ?_;obtain rfl:=oi hm;exact q_l1 x16
theorem qJc (a1:zG) (a2:Span) (a3:Int) (r:Int×Bool) (hm:RE a1 a2 a3=some r):CtX Tryz.prog globs 264 0 0 [.agg (MC a1),.agg (qJ a2),.one (ci a3)] [] (TP r) (WC r):=by
 unfold RE at hm;refine q_E f264 64 λE=>?_;refine s_vn [] 0 ⟨[(2,vi a3),(3,vp 0 0),(4,vp 1 0)],[(0,bx 282 (MC a1)),(1,bx 53 (qJ a2))]⟩ (q_sq ?_);obtain⟨v4,h5,hm⟩:=qC hm;refine s_vv [qc 3 [13,15] 2 (qLd a2 a1.length v4 h5)] 2 [] [(17,vb (!v4))] (q_cq hm (λhm=>?_) (λhm=>?_))
 ·refine s_vn [] 2 ⟨[(6,vi 0),(7,vb false)],[]⟩ ?_;obtain rfl:=oi hm;exact q_rt q_rm
 ·refine q_sk ?_;obtain⟨v7,h8,hm⟩:=qC hm;refine s_vv [qc 7 [20,25] 2 (qMS a1.product (w64 (a2.B-a2.A)) v7 h8)] 2 [17] [(8,vi v7.1),(9,vb v7.2)] (q_sq ?_);refine q_jn (qG5 a1 a2 a3 v7) (λp=>RO a1 a2 a3 v7 p=some r) ?_ ?_
  ·rintro x12 hm;refine q_cq hm (λhm=>?_) (λhm=>?_)
   ·refine s_vn [] 2 ⟨[(6,vi 0),(7,vb false)],[]⟩ ?_;obtain rfl:=oi hm;exact q_rt q_rm
   ·refine q_sk ?_;obtain⟨v14,h15,hm⟩:=qC hm;refine s_vu [qc 2 [41,42] 2 (qDO a1 a2 v14 h15)] 2 [4,40] [(10,vp 2 0)] [1] [(2,bx 85 (ZG v14))] (q_sq ?_);refine s_vu [] 3 [3] [(45,vc (tl qM dd a1.defects)),(46,vi (a1.defects.length:Int)),(47,vi 0)] [0] [] ?_;obtain⟨u28,h27,hm⟩:=qC hm;refine zP (nd f264 1012) 0 (by kernel_rfl) FUEL OU (λv st=>RetQ Tryz.prog f264 (TP v) (WC v) .ret st) u28 (q_hl (GJ a1 a3 v14 v7.1 0) (qGS E a1 a3 v14 FUEL v7.1 0 u28 h27)) ?_ ?_
    ·rintro v29 rfl st hr;obtain rfl:=oi hm;exact hr
    ·rintro o26 rfl;replace hm:_=some r:=hm;refine s_vn [] 3 ⟨[(6,vi (imax o26 0)),(7,vb true)],[]⟩ ?_;obtain rfl:=oi hm;exact q_rt q_rm
  ·rcases bif_c hm with⟨b9,hm⟩|⟨b9,hm⟩
   ·exact q_du [qf 2 b9] [0,1,3,7,15,7,63,7,135,391,1023,2047] 2 [9] [(40,vb true)] [] [] (q_J (true) hm)
   ·obtain⟨v10,h11,hm⟩:=qC hm;exact q_du [qf 2 b9,qk 6 [31,33,34] 2 ⟨[(31,vb false),(33,vc (tl zI dd a1.zones)),(34,va (qJ a2))],[]⟩ (qQ4 a1.zones a2 v10 h11)] [0,1,3,7,15,7,63,7,135,391,1023,2047] 2 [9] [(40,vb (decide (v10>a1.product.Wane)))] [] [] (q_J (decide (v10>a1.product.Wane)) hm)
open Go.Proofs Go.Proofs.Tryz
def qQg (r:Int):V:=vi r
def qQT (r:Int):List (Nat×(Nat×O)):=[]
def SY (v2:(List qN)) (x4:Int) (x5:Int):St:=
 ⟨[(3,vi x4),(7,vc (tl qR dd v2)),(8,vi (v2.length:Int)),(9,vi x5)],[]⟩
def qDN (x8:Int):St:=
 ⟨[(3,vi x8)],[]⟩
theorem qKp (E:Env 0) (v2:(List qN)):∀(n:Nat) (x4:Int) (x5:Int) (res:Int),XF v2 n x4 x5=some res->HL (kx E 19 0) (nd f122 116) (zM 0 qDN res) n (SY v2 x4 x5):=by
 intro n
 induction n with
 |zero=>
  intro x4 x5 res hm;cases hm
 |succ n ih=>
  intro x4 x5 res hm;refine qS (s_va 0 [(10,vb (decide (x5<(v2.length:Int))))] ?_);refine q_sq (q_cq hm (λhm=>?_) (λhm=>?_))
  ·refine q_sk (q_sq ?_);refine q_bk 1 ?_;obtain⟨g7,hm⟩:=qK hm;refine s_vu [qi 0 g7] 0 [10] [(5,vp 0 0)] [] [(0,bx 80 (qR (v2.getD x5.toNat dd)))] (q_vu [] 1 [3,5] [(3,vi (w64 (x4+((v2.getD x5.toNat dd).Len))))] [0] [] ?_);exact q_vv [] 1 [9] [(9,vi (w64 (x5+1)))] (q_hl (SY v2 (w64 (x4+((v2.getD x5.toNat dd).Len))) (w64 (x5+1))) (ih (w64 (x4+((v2.getD x5.toNat dd).Len))) (w64 (x5+1)) _ hm))
  ·refine q_ex 0 ?_;obtain rfl:=oi hm;exact q_l0
theorem FD (a1:List qN) (r:Int) (hm:YX a1=some r):CtX Tryz.prog globs 122 0 0 [.one (tl qR dd a1)] [] (qQg r) (qQT r):=by
 unfold YX at hm;refine q_E f122 19 λE=>?_;refine s_vn [] 0 ⟨[(0,vc (tl qR dd a1))],[]⟩ (s_va 0 [(3,vi 0)] ?_);refine q_sq ?_;obtain⟨v2,h3,hm⟩:=qC hm;refine s_vv [qc 1 [6] 0 (HD a1 v2 h3)] 0 [0] [(7,vc (tl qR dd v2)),(8,vi (v2.length:Int)),(9,vi 0)] ?_;obtain⟨o9,h10,hm⟩:=qC hm;refine zH (nd f122 116) 0 (by kernel_rfl) FUEL qDN o9 (q_hl (SY v2 0 0) (qKp E v2 FUEL 0 0 o9 h10)) (s_vn [] 0 ⟨[(2,vi o9)],[]⟩ ?_);obtain rfl:=oi hm;exact q_rt q_rm
def qVF (r:Int):V:=vc (.val (.int .u64 r))
def qVL (r:Int):List (Nat×(Nat×O)):=[]
theorem qUh (a1:Span) (r:Int) (hm:qF8 a1=some r):CtX Tryz.prog globs 87 0 0 [.agg (qJ a1)] [] (qVF r) (qVL r):=by
 unfold qF8 at hm;refine q_E f87 15 λE=>?_;refine s_vn [] 0 ⟨[(1,vp 0 0)],[(0,bx 53 (qJ a1))]⟩ (q_sq ?_);refine s_va 1 [(7,vb (decide (a1.A≥a1.B)))] (q_cq hm (λhm=>?_) (λhm=>?_))
 ·refine s_vn [] 1 ⟨[(2,vc (.val (.int .u64 0)))],[]⟩ ?_;obtain rfl:=oi hm;exact q_rt q_rm
 ·refine q_sk (s_vn [] 1 ⟨[(2,vc (.val (.int .u64 (IntKind.u64.wrap ((IntKind.u64.wrap (a1.B))-(IntKind.u64.wrap (a1.A)))))))],[]⟩ ?_);obtain rfl:=oi hm;exact q_rt q_rm
def qP8 (r:Int):V:=vi r
def qQm (r:Int):List (Nat×(Nat×O)):=[]
theorem qOQ (a1:Int) (r:Int) (hm:qAc a1=some r):CtX Tryz.prog globs 86 0 0 [.one (.val (.int .u64 a1))] [] (qP8 r) (qQm r):=by
 unfold qAc at hm;refine q_E f86 6 λE=>?_;refine s_vn [] 0 ⟨[(0,vc (.val (.int .u64 a1)))],[]⟩ (s_vn [] 0 ⟨[(2,vi (w64 (imin a1 9223372036854775807)))],[]⟩ ?_);obtain rfl:=oi hm;exact q_rt q_rm
open Go.Proofs Go.Proofs.Tryz
def qXq (r:Int):V:=vi r
def qWZ (r:Int):List (Nat×(Nat×O)):=[]
theorem qCh (a1:Span) (r:Int) (hm:MH a1=some r):CtX Tryz.prog globs 44 0 0 [.agg (qJ a1)] [] (qXq r) (qWZ r):=by
 unfold MH at hm;refine q_E f44 6 λE=>?_;refine s_vn [] 0 ⟨[(1,vp 0 0)],[(0,bx 53 (qJ a1))]⟩ ?_;obtain⟨v2,h3,hm⟩:=qC hm;obtain⟨v4,h5,hm⟩:=qC hm;refine s_vn [qc 1 [3] 1 (qUh a1 v2 h3),qc 2 [4] 1 (qOQ v2 v4 h5)] 1 ⟨[(2,vi v4)],[]⟩ ?_;obtain rfl:=oi hm;exact q_rt q_rm
def qMY (r:Int):V:=vi r
def qNq (r:Int):List (Nat×(Nat×O)):=[]
def NR (a2:Rect) (v3:qH) (x5:Int) (x6:Int):St:=
 ⟨[(2,vp 0 0),(3,vp 1 0),(5,vi x5),(12,vc (tl qJ dd v3.Rows)),(13,vi (v3.Rows.length:Int)),(14,vi x6)],[(0,bx 78 (zA v3)),(1,bx 55 (qT a2))]⟩
def qAU (x19:Int):St:=
 ⟨[(5,vi x19)],[]⟩
theorem qH1 (E:Env 0) (a2:Rect) (v3:qH):∀(n:Nat) (x5:Int) (x6:Int) (res:Int),WY a2 v3 n x5 x6=some res->HL (kx E 44 0) (nd f184 244) (zM 0 qAU res) n (NR a2 v3 x5 x6):=by
 intro n
 induction n with
 |zero=>
  intro x5 x6 res hm;cases hm
 |succ n ih=>
  intro x5 x6 res hm;refine qS (s_va 2 [(15,vb (decide (x6<(v3.Rows.length:Int))))] ?_);refine q_sq (q_cq hm (λhm=>?_) (λhm=>?_))
  ·refine q_sk (q_sq ?_);refine q_bk 1 ?_;obtain⟨g8,hm⟩:=qK hm;refine s_vu [qi 1 g8] 2 [15] [(6,vi x6),(7,vp 2 0)] [] [(2,bx 53 (qJ (v3.Rows.getD x6.toNat dd)))] ?_;obtain⟨v9,h10,hm⟩:=qC hm;refine s_vu [qc 9 [22,27] 3 (FW (w64 (v3.Low+x6)) (w64 ((w64 (v3.Low+x6))+1)) v9 h10)] 3 [6] [(8,vp 3 0)] [] [(3,bx 53 (qJ v9))] ?_;obtain⟨v11,h12,hm⟩:=qC hm;obtain⟨v13,h14,hm⟩:=qC hm;obtain⟨v15,h16,hm⟩:=qC hm;obtain⟨v17,h18,hm⟩:=qC hm
   refine q_du [qc 4 [30,32] 4 (PO (v3.Rows.getD x6.toNat dd) a2.X v11 h12),qc 5 [33] 4 (qCh v11 v13 h14),qc 9 [35,37] 4 (PO v9 a2.Y v15 h16),qc 10 [38] 4 (qCh v15 v17 h18)] [0,0,0,4,14,30,0,0,128,510,1022,2046,4095,8191] 4 [5,7,8] [(5,vi (w64 (x5+(w64 (v13*v17)))))] [2,3] [] (q_vv [] 4 [14] [(14,vi (w64 (x6+1)))] ?_);exact q_hl (NR a2 v3 (w64 (x5+(w64 (v13*v17)))) (w64 (x6+1))) (ih (w64 (x5+(w64 (v13*v17)))) (w64 (x6+1)) _ hm)
  ·refine q_ex 0 ?_;obtain rfl:=oi hm;exact q_l0
theorem qDr (a1:qH) (a2:Rect) (r:Int) (hm:PK a1 a2=some r):CtX Tryz.prog globs 184 0 0 [.agg (zA a1),.agg (qT a2)] [] (qMY r) (qNq r):=by
 unfold PK at hm;refine q_E f184 44 λE=>?_;refine s_vn [] 0 ⟨[(2,vp 0 0),(3,vp 1 0)],[(0,bx 78 (zA a1)),(1,bx 55 (qT a2))]⟩ ?_;obtain⟨v3,h4,hm⟩:=qC hm;refine s_vu [qc 1 [9] 2 (PY a1 v3 h4)] 2 [] [] [0] [(0,bx 78 (zA v3))] (s_va 2 [(5,vi 0)] ?_);refine q_sq (s_va 2 [(12,vc (tl qJ dd v3.Rows)),(13,vi (v3.Rows.length:Int)),(14,vi 0)] ?_);obtain⟨o20,h21,hm⟩:=qC hm;refine zH (nd f184 244) 0 (by kernel_rfl) FUEL qAU o20 (q_hl (NR a2 v3 0 0) (qH1 E a2 v3 FUEL 0 0 o20 h21)) (s_vn [] 2 ⟨[(4,vi o20)],[]⟩ ?_);obtain rfl:=oi hm;exact q_rt q_rm
def qR5 (r:(List qZ)):V:=vo 0 0 3 r.length
def qSs (r:(List qZ)):List (Nat×(Nat×O)):=[(0,ro 0 305 3 r.length (rf zI r))]
def IS (a1:List qN) (a2:Rect) (l3:List qZ) (l3n:Nat) (x4:Int) (x5:Int):St:=
 ⟨[(3,vp 0 0),(5,vi (w64 ((w64 (a2.X.B-a2.X.A))*(w64 (a2.Y.B-a2.Y.A))))),(6,vo 1 0 3 l3n),(7,vi x4),(27,vc (tl qR dd a1)),(28,vi (a1.length:Int)),(29,vi x5)],[(0,bx 55 (qT a2)),(1,ro 0 305 3 l3n (rf zI l3))]⟩
def qE4 (l12:List qZ):St:=
 ⟨[(6,vo 1 0 3 l12.length)],[(1,ro 0 305 3 l12.length (rf zI l12))]⟩
theorem qLL (E:Env 0) (a1:List qN) (a2:Rect):∀(n:Nat) (l3:List qZ) (l3n:Nat) (x4:Int) (x5:Int) (res:(List qZ)),l3.length=l3n->PI a1 a2 n l3 x4 x5=some res->HL (kx E 61 0) (nd f279 500) (zM 0 qE4 res) n (IS a1 a2 l3 l3n x4 x5):=by
 intro n
 induction n with
 |zero=>
  intro l3 l3n x4 x5 res hl0 hm;cases hm
 |succ n ih=>
  intro l3 l3n x4 x5 res hl0 hm;subst hl0;refine qS (s_va 2 [(30,vb (decide (x5<(a1.length:Int))))] ?_);refine q_sq (q_cq hm (λhm=>?_) (λhm=>?_))
  ·refine q_sk (q_sq ?_);refine q_bk 1 ?_;obtain⟨g7,hm⟩:=qK hm;refine s_vu [qi 0 g7] 2 [30] [(9,vp 2 0)] [] [(2,bx 80 (qR (a1.getD x5.toNat dd)))] ?_;obtain⟨v8,h9,hm⟩:=qC hm;refine s_vv [qc 4 [35,36] 3 (qDr ((a1.getD x5.toNat dd).Sec) a2 v8 h9)] 3 [] [(10,vi (w64 ((w64 ((w64 (a2.X.B-a2.X.A))*(w64 (a2.Y.B-a2.Y.A))))-v8)))] (s_vu [] 3 [7,9] [(11,vp 3 0)] [2] [(3,bx 53 [ci x4,ci (w64 (x4+((a1.getD x5.toNat dd).Len)))])] ?_);obtain⟨g10,hm⟩:=qK hm;obtain⟨g11,hm⟩:=qK hm
   refine s_du [qd 8 dN (AS g10),qd 10 (drw 4 0 (rf zI [(qZ.mk (Span.mk x4 (w64 (x4+((a1.getD x5.toNat dd).Len)))) (w64 (Int.tdiv (w64 ((w64 ((w64 (1000*(w64 ((w64 ((w64 (a2.X.B-a2.X.A))*(w64 (a2.Y.B-a2.Y.A))))-v8))))+(w64 ((w64 (a2.X.B-a2.X.A))*(w64 (a2.Y.B-a2.Y.A))))))-1)) (w64 ((w64 (a2.X.B-a2.X.A))*(w64 (a2.Y.B-a2.Y.A)))))))])) (litP zI dd 3 (λ_=>rfl) ([(qZ.mk (Span.mk x4 (w64 (x4+((a1.getD x5.toNat dd).Len)))) (w64 (Int.tdiv (w64 ((w64 ((w64 (1000*(w64 ((w64 ((w64 (a2.X.B-a2.X.A))*(w64 (a2.Y.B-a2.Y.A))))-v8))))+(w64 ((w64 (a2.X.B-a2.X.A))*(w64 (a2.Y.B-a2.Y.A))))))-1)) (w64 ((w64 (a2.X.B-a2.X.A))*(w64 (a2.Y.B-a2.Y.A)))))))]:List qZ) 1 rfl),qd 11 (drw 1 1 (rf zI (l3++[(qZ.mk (Span.mk x4 (w64 (x4+((a1.getD x5.toNat dd).Len)))) (w64 (Int.tdiv (w64 ((w64 ((w64 (1000*(w64 ((w64 ((w64 (a2.X.B-a2.X.A))*(w64 (a2.Y.B-a2.Y.A))))-v8))))+(w64 ((w64 (a2.X.B-a2.X.A))*(w64 (a2.Y.B-a2.Y.A))))))-1)) (w64 ((w64 (a2.X.B-a2.X.A))*(w64 (a2.Y.B-a2.Y.A)))))))]))) (apP zI dd l3 ([(qZ.mk (Span.mk x4 (w64 (x4+((a1.getD x5.toNat dd).Len)))) (w64 (Int.tdiv (w64 ((w64 ((w64 (1000*(w64 ((w64 ((w64 (a2.X.B-a2.X.A))*(w64 (a2.Y.B-a2.Y.A))))-v8))))+(w64 ((w64 (a2.X.B-a2.X.A))*(w64 (a2.Y.B-a2.Y.A))))))-1)) (w64 ((w64 (a2.X.B-a2.X.A))*(w64 (a2.Y.B-a2.Y.A)))))))]:List qZ) l3.length 1 3 24 (1<=1) (ke _) rfl rfl (λ_=>rfl) (zZ g11))] [0,0,0,4,0,28,60,0,252,510,1022,2047,4095] 4 [6,10] [(6,vo 1 1 3 (l3.length+1))] [1] [(1,ro 1 305 3 (l3.length+1) (rf zI (l3++[(qZ.mk (Span.mk x4 (w64 (x4+((a1.getD x5.toNat dd).Len)))) (w64 (Int.tdiv (w64 ((w64 ((w64 (1000*(w64 ((w64 ((w64 (a2.X.B-a2.X.A))*(w64 (a2.Y.B-a2.Y.A))))-v8))))+(w64 ((w64 (a2.X.B-a2.X.A))*(w64 (a2.Y.B-a2.Y.A))))))-1)) (w64 ((w64 (a2.X.B-a2.X.A))*(w64 (a2.Y.B-a2.Y.A)))))))])))] ?_
   refine q_vu [] 5 [11] [(7,vi (w64 (x4+((a1.getD x5.toNat dd).Len))))] [3] [] (q_vv [] 5 [29] [(29,vi (w64 (x5+1)))] ?_)
   exact q_hl (IS a1 a2 (l3++[(qZ.mk (Span.mk x4 (w64 (x4+((a1.getD x5.toNat dd).Len)))) (w64 (Int.tdiv (w64 ((w64 ((w64 (1000*(w64 ((w64 ((w64 (a2.X.B-a2.X.A))*(w64 (a2.Y.B-a2.Y.A))))-v8))))+(w64 ((w64 (a2.X.B-a2.X.A))*(w64 (a2.Y.B-a2.Y.A))))))-1)) (w64 ((w64 (a2.X.B-a2.X.A))*(w64 (a2.Y.B-a2.Y.A)))))))]) (l3.length+1) (w64 (x4+((a1.getD x5.toNat dd).Len))) (w64 (x5+1))) (ih (l3++[(qZ.mk (Span.mk x4 (w64 (x4+((a1.getD x5.toNat dd).Len)))) (w64 (Int.tdiv (w64 ((w64 ((w64 (1000*(w64 ((w64 ((w64 (a2.X.B-a2.X.A))*(w64 (a2.Y.B-a2.Y.A))))-v8))))+(w64 ((w64 (a2.X.B-a2.X.A))*(w64 (a2.Y.B-a2.Y.A))))))-1)) (w64 ((w64 (a2.X.B-a2.X.A))*(w64 (a2.Y.B-a2.Y.A)))))))]) (l3.length+1) (w64 (x4+((a1.getD x5.toNat dd).Len))) (w64 (x5+1)) _ (wA rfl rfl) hm)
  ·refine q_ex 0 ?_;obtain rfl:=oi hm;exact q_l0
theorem qQR (a1:List qN) (a2:Rect) (r:(List qZ)) (hm:AE a1 a2=some r):CtX Tryz.prog globs 279 0 0 [.one (tl qR dd a1),.agg (qT a2)] [] (qR5 r) (qSs r):=by
 unfold AE at hm;refine q_E f279 61 λE=>?_;refine s_vn [] 0 ⟨[(0,vc (tl qR dd a1)),(3,vp 0 0)],[(0,bx 55 (qT a2))]⟩ (s_va 1 [(5,vi (w64 ((w64 (a2.X.B-a2.X.A))*(w64 (a2.Y.B-a2.Y.A)))))] ?_);refine s_va 1 [(6,vc (.emp))] (s_va 1 [(7,vi 0)] ?_);refine q_sq (s_vv [] 1 [0] [(27,vc (tl qR dd a1)),(28,vi (a1.length:Int)),(29,vi 0)] ?_);refine q_fo 6 1 305 3 zI ?_;obtain⟨o13,h14,hm⟩:=qC hm;refine zH (nd f279 500) 0 (by kernel_rfl) FUEL qE4 o13 (q_hl (IS a1 a2 ([]:List qZ) 0 0 0) (qLL E a1 a2 FUEL ([]:List qZ) 0 0 0 o13 rfl h14)) (s_vv [] 2 [6] [(4,vo 1 0 3 o13.length)] ?_);obtain rfl:=oi hm
 exact q_sw 1 0 (q_rt q_rm)
end Saw
end Go.SL
