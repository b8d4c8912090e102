import Derived.Test.YtigmogcdifllhaaGreatDoorEBase
import Derived.Test.YtigmogcdifllhaaGreatDoorEFa6
import Derived.Test.YtigmogcdifllhaaGreatDoorEFa1
import Derived.Test.YtigmogcdifllhaaGreatDoorEFa5
import Derived.Test.YtigmogcdifllhaaGreatDoorEFa3
set_option linter.unusedVariables false
set_option linter.unusedSimpArgs false
namespace Go.SL
namespace Saw
open Go.Proofs Go.Proofs.Tryz
set_option maxHeartbeats 4000000
set_option maxRecDepth 100000
def qQL (r:Bool):V:=vb r
def qRb (r:Bool):List (Nat×(Nat×O)):=[]
def qLE (x3:Bool):St:=
 ⟨[(2,vb x3)],[]⟩
theorem qGr (a1:Int) (r:Bool) (hm:GH a1=some r):CtX Tryz.prog globs 169 0 0 [.one (ci a1)] [] (qQL r) (qRb r):=by
 unfold GH at hm;refine q_E f169 9 λE=>?_;refine s_vn [] 0 ⟨[(0,vi a1)],[]⟩ (q_jn (qLE) (λp=>qAL p=some r) ?_ ?_)
 ·rintro x3 hm;obtain rfl:=oi hm;exact q_rt q_rm
 ·rcases bif_c hm with⟨b2,hm⟩|⟨b2,hm⟩
  ·exact q_vn [qf 2 b2] 0 ⟨[(2,vb (decide (a1<=1000000)))],[]⟩ (q_J (decide (a1<=1000000)) hm)
  ·exact q_vn [qf 2 b2] 0 ⟨[(2,vb false)],[]⟩ (q_J (false) hm)
def qRg (r:Bool):V:=vb r
def qRx (r:Bool):List (Nat×(Nat×O)):=[]
def qLJ (x3:Bool):St:=
 ⟨[(2,vb x3)],[]⟩
theorem qAC (a1:Int) (r:Bool) (hm:GE a1=some r):CtX Tryz.prog globs 168 0 0 [.one (ci a1)] [] (qRg r) (qRx r):=by
 unfold GE at hm;refine q_E f168 9 λE=>?_;refine s_vn [] 0 ⟨[(0,vi a1)],[]⟩ (q_jn (qLJ) (λp=>FK p=some r) ?_ ?_)
 ·rintro x3 hm;obtain rfl:=oi hm;exact q_rt q_rm
 ·rcases bif_c hm with⟨b2,hm⟩|⟨b2,hm⟩
  ·exact q_vn [qf 2 b2] 0 ⟨[(2,vb (decide (a1<=20000)))],[]⟩ (q_J (decide (a1<=20000)) hm)
  ·exact q_vn [qf 2 b2] 0 ⟨[(2,vb false)],[]⟩ (q_J (false) hm)
def qSV (r:Int):V:=vi r
def qSL (r:Int):List (Nat×(Nat×O)):=[]
def qNm (x20:Bool):St:=
 ⟨[(60,vb x20)],[]⟩
def qOf (a2:Rates) (x12:Bool):St:=
 ⟨[(3,vp 1 0),(36,vb x12)],[(1,bx 41 (wC a2))]⟩
def qNS (a1:Saw) (a2:Rates) (x6:Bool):St:=
 ⟨[(2,vp 0 0),(3,vp 1 0),(22,vb x6)],[(0,bx 39 (jY a1)),(1,bx 41 (wC a2))]⟩
theorem qHB (a1:Saw) (a2:Rates) (r:Int) (hm:NR a1 a2=some r):CtX Tryz.prog globs 108 0 0 [.agg (jY a1),.agg (wC a2)] [] (qSV r) (qSL r):=by
 unfold NR at hm;refine q_E f108 61 λE=>?_;refine s_vn [] 0 ⟨[(2,vp 0 0),(3,vp 1 0)],[(0,bx 39 (jY a1)),(1,bx 41 (wC a2))]⟩ (q_sq ?_);refine q_jn (qNS a1 a2) (λp=>PU a1 a2 p=some r) ?_ ?_
 ·rintro x6 hm;refine q_cq hm (λhm=>?_) (λhm=>?_)
  ·refine s_vn [] 2 ⟨[(4,vi 9)],[]⟩ ?_;obtain rfl:=oi hm;exact q_rt q_rm
  ·refine q_sk (q_sq ?_);refine q_jn (qOf a2) (λp=>GC a2 p=some r) ?_ ?_
   ·rintro x12 hm;refine q_cq hm (λhm=>?_) (λhm=>?_)
    ·refine s_vn [] 2 ⟨[(4,vi 9)],[]⟩ ?_;obtain rfl:=oi hm;exact q_rt q_rm
    ·refine q_sk (q_sq ?_);refine q_jn (qNm) (λp=>YP p=some r) ?_ ?_
     ·rintro x20 hm;refine q_cq hm (λhm=>?_) (λhm=>?_)
      ·refine s_vn [] 2 ⟨[(4,vi 9)],[]⟩ ?_;obtain rfl:=oi hm;exact q_rt q_rm
      ·refine q_sk (s_vn [] 2 ⟨[(4,vi 0)],[]⟩ ?_);obtain rfl:=oi hm;exact q_rt q_rm
     ·rcases bif_c hm with⟨b14,hm⟩|⟨b14,hm⟩
      ·exact q_vn [qf 3 b14] 2 ⟨[(60,vb true)],[]⟩ (q_J (true) hm)
      ·rcases bif_c hm with⟨b15,hm⟩|⟨b15,hm⟩
       ·exact q_vn [qf 3 b14,qf 8 b15] 2 ⟨[(60,vb true)],[]⟩ (q_J (true) hm)
       ·rcases bif_c hm with⟨b16,hm⟩|⟨b16,hm⟩
        ·exact q_vn [qf 3 b14,qf 8 b15,qf 13 b16] 2 ⟨[(60,vb true)],[]⟩ (q_J (true) hm)
        ·rcases bif_c hm with⟨b17,hm⟩|⟨b17,hm⟩
         ·exact q_vn [qf 3 b14,qf 8 b15,qf 13 b16,qf 18 b17] 2 ⟨[(60,vb true)],[]⟩ (q_J (true) hm)
         ·obtain⟨v18,h19,hm⟩:=qC hm;exact q_vn [qf 3 b14,qf 8 b15,qf 13 b16,qf 18 b17,qk 21 [55,57] 2 ⟨[(55,vb false),(57,vi a2.Fine)],[]⟩ (qGr a2.Fine v18 h19)] 2 ⟨[(60,vb (!v18))],[]⟩ (q_J (!v18) hm)
   ·rcases bif_c hm with⟨b8,hm⟩|⟨b8,hm⟩
    ·exact q_vu [qf 3 b8] 2 [2,22] [(36,vb true)] [0] [] (q_J (true) hm)
    ·rcases bif_c hm with⟨b9,hm⟩|⟨b9,hm⟩
     ·exact q_vu [qf 3 b8,qf 8 b9] 2 [2,22] [(36,vb true)] [0] [] (q_J (true) hm)
     ·obtain⟨v10,h11,hm⟩:=qC hm;exact q_vu [qf 3 b8,qf 8 b9,qk 11 [31,33] 2 ⟨[(31,vb false),(33,vi a1.Step)],[]⟩ (qAC a1.Step v10 h11)] 2 [2,22] [(36,vb (!v10))] [0] [] (q_J (!v10) hm)
 ·rcases bif_c hm with⟨b3,hm⟩|⟨b3,hm⟩
  ·exact q_vv [qf 3 b3] 2 [] [(22,vb true)] (q_J (true) hm)
  ·rcases bif_c hm with⟨b4,hm⟩|⟨b4,hm⟩
   ·exact q_vv [qf 3 b3,qf 8 b4] 2 [] [(22,vb true)] (q_J (true) hm)
   ·rcases bif_c hm with⟨b5,hm⟩|⟨b5,hm⟩
    ·exact q_vv [qf 3 b3,qf 8 b4,qf 13 b5] 2 [] [(22,vb true)] (q_J (true) hm)
    ·exact q_vv [qf 3 b3,qf 8 b4,qf 13 b5] 2 [] [(22,vb (decide (a1.Trim>20)))] (q_J (decide (a1.Trim>20)) hm)
open Go.Proofs Go.Proofs.Tryz
def EB (r:Int):V:=vi r
def EK (r:Int):List (Nat×(Nat×O)):=[]
def qIN (a1:Rect) (x5:Int) (x9:Bool):St:=
 ⟨[(33,va (qT a1)),(34,vi x5),(42,vb x9)],[]⟩
def BF (a1:Rect) (x5:Int):St:=
 ⟨[(33,va (qT a1)),(34,vi x5)],[]⟩
def qAQ :St:=
 ⟨[],[]⟩
def qIP (a1:Rect) (x3:Bool):St:=
 ⟨[(1,vp 0 0),(20,vb x3)],[(0,bx 55 (qT a1))]⟩
theorem qHD (E:Env 0) (a1:Rect):∀(n:Nat) (x5:Int) (res:Int⊕Unit),yA a1 n x5=some res->HL (kx E 44 0) (nd f109 116) (wL 0 (λo=>qAQ) (λv st=>RetQ Tryz.prog f109 (EB v) (EK v) .ret st) res) n (BF a1 x5):=by
 intro n
 induction n with
 |zero=>
  intro x5 res hm;cases hm
 |succ n ih=>
  intro x5 res hm;refine qS (s_va 1 [(35,vb (decide (x5<4)))] ?_);refine q_sq (q_cq hm (λhm=>?_) (λhm=>?_))
  ·refine q_sk (q_sq ?_);refine q_bk 1 ?_;obtain⟨g7,hm⟩:=qJ hm;refine s_vv [qi 0 g7] 1 [35] [(4,vi (([a1.X.A,a1.X.B,a1.Y.A,a1.Y.B]:List Int).getD x5.toNat 0))] (q_jn (qIN a1 x5) (λp=>UO x5 (yA a1 n) p=some res) ?_ ?_)
   ·rintro x9 hm;refine q_cq hm (λhm=>?_) (λhm=>?_)
    ·refine s_vn [] 1 ⟨[(2,vi 9)],[]⟩ ?_;obtain rfl:=oi hm;refine q_rt (zJ 9 ?_);exact q_rm
    ·refine q_sk (q_vv [] 1 [34,42] [(34,vi (w64 (x5+1)))] ?_);exact q_hl (BF a1 (w64 (x5+1))) (ih (w64 (x5+1)) _ hm)
   ·rcases bif_c hm with⟨b8,hm⟩|⟨b8,hm⟩
    ·exact q_vv [qf 2 b8] 1 [4] [(42,vb true)] (q_J (true) hm)
    ·exact q_vv [qf 2 b8] 1 [4] [(42,vb (decide ((([a1.X.A,a1.X.B,a1.Y.A,a1.Y.B]:List Int).getD x5.toNat 0)>600)))] (q_J (decide ((([a1.X.A,a1.X.B,a1.Y.A,a1.Y.B]:List Int).getD x5.toNat 0)>600)) hm)
  ·refine q_ex 0 ?_;obtain rfl:=oi hm;exact q_l1 ()
theorem qKb (a1:Rect) (r:Int) (hm:FJ a1=some r):CtX Tryz.prog globs 109 0 0 [.agg (qT a1)] [] (EB r) (EK r):=by
 unfold FJ at hm;refine q_E f109 44 λE=>?_;refine s_vn [] 0 ⟨[(1,vp 0 0)],[(0,bx 55 (qT a1))]⟩ (q_sq ?_);refine q_jn (qIP a1) (λp=>UI a1 p=some r) ?_ ?_
 ·rintro x3 hm;refine q_cq hm (λhm=>?_) (λhm=>?_)
  ·refine s_vn [] 1 ⟨[(2,vi 19)],[]⟩ ?_;obtain rfl:=oi hm;exact q_rt q_rm
  ·refine q_sk (q_sq ?_);refine s_vn [] 1 ⟨[(33,va (qT a1)),(34,vi 0)],[]⟩ ?_;obtain⟨u13,h12,hm⟩:=qC hm;refine zO (nd f109 116) 0 (by kernel_rfl) FUEL (λo=>qAQ) (λv st=>RetQ Tryz.prog f109 (EB v) (EK v) .ret st) u13 (q_hl (BF a1 0) (qHD E a1 FUEL 0 u13 h12)) ?_ ?_
   ·rintro v14 rfl st hr;obtain rfl:=oi hm;exact hr
   ·rintro o11 rfl;replace hm:_=some r:=hm;refine s_vn [] 1 ⟨[(2,vi 0)],[]⟩ ?_;obtain rfl:=oi hm;exact q_rt q_rm
 ·rcases bif_c hm with⟨b2,hm⟩|⟨b2,hm⟩
  ·exact q_vv [qf 7 b2] 1 [] [(20,vb true)] (q_J (true) hm)
  ·exact q_vv [qf 7 b2] 1 [] [(20,vb (decide (a1.Y.A≥a1.Y.B)))] (q_J (decide (a1.Y.A≥a1.Y.B)) hm)
def qTE (r:Int):V:=vi r
def qVL (r:Int):List (Nat×(Nat×O)):=[]
theorem qSs (a1:List qN) (a2:List qG) (a3:List qE) (a4:Rect) (a5:Saw) (a6:Rates) (r:Int) (hm:UK a1 a2 a3 a4 a5 a6=some r):CtX Tryz.prog globs 53 0 0 [.one (tl qR dd a1),.one (tl qM dd a2),.one (tl qP dd a3),.agg (qT a4),.agg (jY a5),.agg (wC a6)] [] (qTE r) (qVL r):=by
 unfold UK at hm;refine q_E f53 40 λE=>?_;refine s_vn [] 0 ⟨[(0,vc (tl qR dd a1)),(1,vc (tl qM dd a2)),(2,vc (tl qP dd a3)),(9,vp 0 0),(10,vp 1 0),(11,vp 2 0)],[(0,bx 55 (qT a4)),(1,bx 39 (jY a5)),(2,bx 41 (wC a6))]⟩ (q_sq ?_);obtain⟨v7,h8,hm⟩:=qC hm;refine s_vv [qc 1 [17] 3 (YI a1 v7 h8)] 3 [0] [(13,vi v7)] (s_va 3 [(20,vb (v7 !=0))] ?_);refine q_cq hm (λhm=>?_) (λhm=>?_)
 ·refine s_vn [] 3 ⟨[(12,vi v7)],[]⟩ ?_;obtain rfl:=oi hm;exact q_rt q_rm
 ·refine q_sk (q_sq ?_);obtain⟨v10,h11,hm⟩:=qC hm;refine s_vv [qc 1 [22] 3 (WY a2 v10 h11)] 3 [1,13,20] [(14,vi v10)] (s_va 3 [(25,vb (v10 !=0))] ?_);refine q_cq hm (λhm=>?_) (λhm=>?_)
  ·refine s_vn [] 3 ⟨[(12,vi v10)],[]⟩ ?_;obtain rfl:=oi hm;exact q_rt q_rm
  ·refine q_sk (q_sq ?_);obtain⟨v13,h14,hm⟩:=qC hm;refine s_vv [qc 1 [27] 3 (YE a3 v13 h14)] 3 [2,14,25] [(15,vi v13)] (s_va 3 [(30,vb (v13 !=0))] ?_);refine q_cq hm (λhm=>?_) (λhm=>?_)
   ·refine s_vn [] 3 ⟨[(12,vi v13)],[]⟩ ?_;obtain rfl:=oi hm;exact q_rt q_rm
   ·refine q_sk (q_sq ?_);obtain⟨v16,h17,hm⟩:=qC hm;refine s_vu [qc 2 [32,33] 3 (qHB a5 a6 v16 h17)] 3 [10,11,15,30] [(16,vi v16)] [1,2] [] (s_va 3 [(36,vb (v16 !=0))] ?_);refine q_cq hm (λhm=>?_) (λhm=>?_)
    ·refine s_vn [] 3 ⟨[(12,vi v16)],[]⟩ ?_;obtain rfl:=oi hm;exact q_rt q_rm
    ·refine q_sk ?_;obtain⟨v19,h20,hm⟩:=qC hm;refine s_vn [qc 1 [38] 3 (qKb a4 v19 h20)] 3 ⟨[(12,vi v19)],[]⟩ ?_;obtain rfl:=oi hm;exact q_rt q_rm
def qWD (r:Rect):V:=va (qT r)
def qWn (r:Rect):List (Nat×(Nat×O)):=[]
theorem qER (a1:Rect) (a2:Int) (a3:Int) (r:Rect) (hm:DL a1 a2 a3=some r):CtX Tryz.prog globs 174 0 0 [.agg (qT a1),.one (ci a2),.one (ci a3)] [] (qWD r) (qWn r):=by
 unfold DL at hm;refine q_E f174 21 λE=>?_;refine s_vn [] 0 ⟨[(1,vi a2),(2,vi a3),(3,vp 0 0),(6,vp 1 0)],[(0,bx 55 (qT a1)),(1,bx 55 [ci 0,ci 0,ci 0,ci 0])]⟩ (s_vn [] 2 ⟨[(6,vp 1 0)],[(1,bx 55 [ci (w64 (a1.X.A+a2)),ci (w64 (a1.X.A+a3)),ci a1.Y.A,ci a1.Y.B])]⟩ ?_);obtain rfl:=oi hm;exact q_rt q_rm
open Go.Proofs Go.Proofs.Tryz
def qAy (r:List Node):V:=vo 0 0 2 r.length
def KT (r:List Node):List (Nat×(Nat×O)):=[(0,ro 0 156 2 r.length (rf qL r))]
theorem qIq (r:List Node):ZE (KT r):=by
 intro i k o h;unfold KT at h;rw[look_cons] at h;split at h
 ·cases h;exact λ_ _=>rfl
 ·cases h
theorem qHi (a1:List Node) (r:List Node) (hm:UF a1=some r):CtX Tryz.prog globs 217 0 0 [.one (tl qL dd a1)] [] (qAy r) (KT r):=by
 unfold UF at hm;obtain⟨g1,hm⟩:=qJ hm;obtain rfl:=kC hm;refine qBC (fn:=f217) (c:=nd f217 1) (nt:=8) (by kernel_rfl) (by kernel_rfl) (by kernel_rfl) (by kernel_rfl) λE=>?_;refine R_sq f217 2 3 (by kernel_rfl) (R_rn f217 2 0 [] [] 0 ⟨[(0,vc (tl qL dd a1))],[]⟩ o0 (by kernel_rfl) (by kernel_rfl) ?_);refine R_sq f217 6 7 (by kernel_rfl) (R_sq f217 12 13 (by kernel_rfl) ?_);refine qPy f217 12 1 1 ⟨[(0,vc (tl qL dd a1)),(3,vc (tl qL dd a1))],[]⟩ 56 56 156 4 (.tmp 3) a1.length (rf qL a1) (by kernel_rfl) (by kernel_rfl) (by kernel_rfl) (λb hb=>?_)
 refine R_cn f217 (.tmp 4) 26 27 (by kernel_rfl) b (by kernel_rfl) (λb6=>?_) (λb6=>?_)
 ·obtain rfl:a1=[]:=ue (hb b6);refine R_sq f217 52 53 (by kernel_rfl) (R_rn f217 52 2 [] [.own 2 0 156 2 (rf qL [])] 0 ⟨[(2,vo 0 0 2 0)],[(0,ro 0 156 2 0 (rf qL []))]⟩ o0 (by kernel_rfl) (by kernel_rfl) ?_);exact qAp (by kernel_rfl) (HI (by kernel_rfl) (by kernel_rfl))
 ·refine qHJ (by kernel_rfl) (R_sq f217 14 15 (by kernel_rfl) ?_);refine R_rn f217 14 3 [(0,drw 0 0 (rf qL [])),(2,drw 0 1 (rf qL ([]++a1)))] [.len 0 a1.length] 0 ⟨[(2,vo 0 1 2 a1.length)],[(0,ro 1 156 2 a1.length (rf qL ([]++a1)))]⟩ (o1 (And.intro (And.intro (litP qL dd 2 (λ_=>rfl) ([]:List Node) 0 rfl) (apP qL dd ([]:List Node) a1 0 a1.length 2 16 True trivial rfl rfl (λ_=>rfl) (by have:=wA g1;rw[kz];exact this))) (And.intro (And.intro (kz a1.length) (kz a1.length)) (kz a1.length)))) (by kernel_rfl) (by kernel_rfl) (qAp (by kernel_rfl) ?_);exact HI (by kernel_rfl) (by kernel_rfl)
def qDZ (a1:List (List Node)) (a2:List Node) (r:(List (List Node))×(List (List Node))):V:=vo 0 0 1 r.2.length
def qDV (a1:List (List Node)) (a2:List Node) (r:(List (List Node))×(List (List Node))):List (Nat×(Nat×O)):=[(0,ro 0 56 1 r.2.length (rf (qU qL) r.2)),(1,ro 0 156 2 a2.length (rf qL a2))]
theorem qLd (a1:List (List Node)) (a2:List Node) (r:(List (List Node))×(List (List Node))) (hm:FO a1 a2=some r):CtX Tryz.prog globs 175 2 0 [.one (.own 0 0 1 a1.length),.one (.own 1 0 2 a2.length)] [(0,ro 0 56 1 a1.length (rf (qU qL) a1)),(1,ro 0 156 2 a2.length (rf qL a2))] (qDZ a1 a2 r) (qDV a1 a2 r):=by
 unfold FO at hm;refine q_E f175 10 λE=>?_;refine s_vn [] 2 ⟨[(0,vo 0 0 1 a1.length),(1,vo 1 0 2 a2.length)],[(0,ro 0 56 1 a1.length (rf (qU qL) a1)),(1,ro 0 156 2 a2.length (rf qL a2))]⟩ ?_;obtain⟨v3,h4,hm⟩:=qC hm;obtain⟨g5,hm⟩:=qJ hm
 refine s_vu [qd 2 (dex (cen [] [] 2 0 (qAy v3) (KT v3) [6] [1])) (wK (K:=(kx E 10 0)) (b:=false) ⟨[(6,vo 1 0 2 a2.length)],[(1,ro 0 156 2 a2.length (rf qL a2))]⟩ (opAt (rg f175 6) 2) [] [] 2 (o1 (ke a2.length)) rfl (qHi a2 v3 h4) (.inr ⟨(by kernel_rfl),qIq v3⟩) (by kernel_rfl)),qd 3 (dpr [.frz 2] (drw 3 0 (rf (qU qL) [v3]))) (ke v3.length),qd 3 dN (litP (qU qL) dd 1 (λ_=>rfl) ([v3]:List (List Node)) 1 rfl),qd 4 (drw 0 1 (rf (qU qL) (a1++[v3]))) (apP (qU qL) dd a1 ([v3]:List (List Node)) a1.length 1 1 24 (1<=1) (ke _) rfl rfl (λ_=>rfl) (wA g5))] 2 [0,1] [(4,vo 0 1 1 (a1.length+1))] [0] [(0,ro 1 56 1 (a1.length+1) (rf (qU qL) (a1++[v3])))] ?_
 refine q_fu [.len 0 ((a1++[v3]).length)] [4] [(4,vo 0 1 1 ((a1++[v3]).length))] [0] [(0,ro 1 56 1 ((a1++[v3]).length) (rf (qU qL) (a1++[v3])))] (o1 (And.intro (Eq.symm (show(a1++[v3]).length=(a1.length+1) from(wB rfl rfl))) (Eq.symm (show(a1++[v3]).length=(a1.length+1) from(wB rfl rfl))))) ?_;obtain rfl:=oi hm;exact q_rt q_rm
def qSU (r:Box×Bool):V:= .tup [.agg (ZJ r.1),.one (cb r.2)]
def qS4 (r:Box×Bool):List (Nat×(Nat×O)):=[]
def qM2 (v3:Span) (v5:Span) (v7:Span) (x17:Bool):St:=
 ⟨[(4,vp 2 0),(6,vp 3 0),(35,vb x17)],[(2,bx 85 [ci 0,ci 0,ci 0,ci 0,ci 0,ci 0]),(3,bx 85 [ci v3.A,ci v3.B,ci v5.A,ci v5.B,ci v7.A,ci v7.B])]⟩
theorem qRw (a1:Box) (a2:Box) (r:Box×Bool) (hm:qCu a1 a2=some r):CtX Tryz.prog globs 291 0 0 [.agg (ZJ a1),.agg (ZJ a2)] [] (qSU r) (qS4 r):=by
 unfold qCu at hm;refine q_E f291 38 λE=>?_;refine s_vn [] 0 ⟨[(2,vp 0 0),(3,vp 1 0),(4,vp 2 0)],[(0,bx 85 (ZJ a1)),(1,bx 85 (ZJ a2)),(2,bx 85 [ci 0,ci 0,ci 0,ci 0,ci 0,ci 0])]⟩ ?_;obtain⟨v3,h4,hm⟩:=qC hm;obtain⟨v5,h6,hm⟩:=qC hm;obtain⟨v7,h8,hm⟩:=qC hm;refine s_du [qc 4 [8,10] 3 (RJ a1.X a2.X v3 h4),qc 9 [13,15] 3 (RJ a1.Y a2.Y v5 h6),qc 14 [18,20] 3 (RJ a1.Z a2.Z v7 h8)] [0,1,0,4,15,0,32,0,128,511,0,1024,0,4096,16383,32767,0,131071] 3 [2,3] [(6,vp 3 0)] [0,1] [(3,bx 85 [ci v3.A,ci v3.B,ci v5.A,ci v5.B,ci v7.A,ci v7.B])] (q_sq ?_)
 refine q_jn (qM2 v3 v5 v7) (λp=>DK v3 v5 v7 p=some r) ?_ ?_
 ·rintro x17 hm;refine q_cq hm (λhm=>?_) (λhm=>?_)
  ·refine s_vu [] 4 [6,35] [(5,vb false)] [3] [] ?_;obtain rfl:=oi hm;exact q_rt q_rm
  ·refine q_sk (s_vu [] 4 [6,35] [(5,vb true)] [2,3] [(2,bx 85 [ci v3.A,ci v3.B,ci v5.A,ci v5.B,ci v7.A,ci v7.B])] ?_);obtain rfl:=oi hm;exact q_rt q_rm
 ·obtain⟨v9,h10,hm⟩:=qC hm;rcases bif_c hm with⟨b11,hm⟩|⟨b11,hm⟩
  ·exact q_vv [qc 2 [24] 4 (wP v3 v9 h10),qf 3 b11] 4 [] [(35,vb true)] (q_J (true) hm)
  ·obtain⟨v12,h13,hm⟩:=qC hm;rcases bif_c hm with⟨b14,hm⟩|⟨b14,hm⟩
   ·exact q_vv [qc 2 [24] 4 (wP v3 v9 h10),qf 3 b11,qk 6 [26,28] 4 ⟨[(26,vb false),(28,va (qK v5))],[]⟩ (wP v5 v12 h13),qf 8 b14] 4 [] [(35,vb true)] (q_J (true) hm)
   ·obtain⟨v15,h16,hm⟩:=qC hm;exact q_vv [qc 2 [24] 4 (wP v3 v9 h10),qf 3 b11,qk 6 [26,28] 4 ⟨[(26,vb false),(28,va (qK v5))],[]⟩ (wP v5 v12 h13),qf 8 b14,qk 11 [31,33] 4 ⟨[(31,vb false),(33,va (qK v7))],[]⟩ (wP v7 v15 h16)] 4 [] [(35,vb v15)] (q_J (v15) hm)
open Go.Proofs Go.Proofs.Tryz
def qNw (r:Bool):V:=vb r
def qNb (r:Bool):List (Nat×(Nat×O)):=[]
theorem qD2 (a1:qG) (a2:Box) (r:Bool) (hm:PP a1 a2=some r):CtX Tryz.prog globs 281 0 0 [.agg (qM a1),.agg (ZJ a2)] [] (qNw r) (qNb r):=by
 unfold PP at hm;refine q_E f281 15 λE=>?_;refine s_vn [] 0 ⟨[(2,vp 0 0),(3,vp 1 0)],[(0,bx 87 (qM a1)),(1,bx 85 (ZJ a2))]⟩ ?_;obtain⟨v3,h4,hm⟩:=qC hm;refine s_vn [qc 3 [9,10] 2 (qRw a1.Box a2 v3 h4)] 2 ⟨[(6,vb v3.2)],[]⟩ (s_vn [] 3 ⟨[(4,vb v3.2)],[]⟩ ?_);obtain rfl:=oi hm;exact q_rt q_rm
def qMK (r:Bool):V:=vb r
def qOg (r:Bool):List (Nat×(Nat×O)):=[]
def qJO (x5:Bool):St:=
 ⟨[(4,vb x5)],[]⟩
theorem qLR (a1:Span) (a2:Int) (r:Bool) (hm:SQ a1 a2=some r):CtX Tryz.prog globs 282 0 0 [.agg (qK a1),.one (ci a2)] [] (qMK r) (qOg r):=by
 unfold SQ at hm;refine q_E f282 21 λE=>?_;refine s_vn [] 0 ⟨[(1,vi a2),(2,vp 0 0)],[(0,bx 53 (qK a1))]⟩ (q_jn (qJO) (λp=>VJ p=some r) ?_ ?_)
 ·rintro x5 hm;obtain rfl:=oi hm;exact q_rt q_rm
 ·rcases bif_c hm with⟨b3,hm⟩|⟨b3,hm⟩
  ·rcases bif_c hm with⟨b4,hm⟩|⟨b4,hm⟩
   ·exact q_vn [qf 3 b3,qf 10 b4] 1 ⟨[(4,vb (decide (a1.B<=a2)))],[]⟩ (q_J (decide (a1.B<=a2)) hm)
   ·exact q_vn [qf 3 b3,qf 10 b4] 1 ⟨[(4,vb false)],[]⟩ (q_J (false) hm)
  ·exact q_vn [qf 3 b3] 1 ⟨[(4,vb false)],[]⟩ (q_J (false) hm)
def qA4 (r:Int×Bool):V:= .tup [.one (ci r.1),.one (cb r.2)]
def qAS (r:Int×Bool):List (Nat×(Nat×O)):=[]
def LO (a1:qE) (a2:Int) (x3:Int):St:=
 ⟨[(1,vi a2),(2,vp 0 0),(9,vc (tl qD dd a1.Lengths)),(10,vi (a1.Lengths.length:Int)),(11,vi x3)],[(0,bx 74 (qP a1))]⟩
def qDg :St:=
 ⟨[],[]⟩
theorem qJy (E:Env 0) (a1:qE) (a2:Int):∀(n:Nat) (x3:Int) (res:(Int×Bool)⊕Unit),YL a1 a2 n x3=some res->HL (kx E 30 0) (nd f283 52) (wL 0 (λo=>qDg) (λv st=>RetQ Tryz.prog f283 (qA4 v) (qAS v) .ret st) res) n (LO a1 a2 x3):=by
 intro n
 induction n with
 |zero=>
  intro x3 res hm;cases hm
 |succ n ih=>
  intro x3 res hm;refine qS (s_va 1 [(12,vb (decide (x3<(a1.Lengths.length:Int))))] ?_);refine q_sq (q_cq hm (λhm=>?_) (λhm=>?_))
  ·refine q_sk (q_sq ?_);refine q_bk 1 ?_;obtain⟨g5,hm⟩:=qJ hm;refine s_vv [qi 1 g5] 1 [12] [(6,vi x3),(7,vi (a1.Lengths.getD x3.toNat dd))] (q_sq ?_);refine s_vv [] 1 [7] [(18,vb ((a1.Lengths.getD x3.toNat dd) !=a2))] (q_cq hm (λhm=>?_) (λhm=>?_))
   ·refine q_ex 1 (q_vv [] 1 [6,11,18] [(11,vi (w64 (x3+1)))] ?_);exact q_hl (LO a1 a2 (w64 (x3+1))) (ih (w64 (x3+1)) _ hm)
   ·refine q_sk (q_sq ?_);refine s_vv [] 1 [1,9,10,11,18] [(23,vb (decide (x3≥(a1.Prices.length:Int))))] (q_cq hm (λhm=>?_) (λhm=>?_))
    ·refine s_vn [] 1 ⟨[(4,vi 0),(5,vb false)],[]⟩ ?_;obtain rfl:=oi hm;refine q_rt (zJ (0,false) ?_);exact q_rm
    ·refine q_sk ?_;obtain⟨g8,hm⟩:=qJ hm;refine s_vn [qi 3 g8] 1 ⟨[(4,vi (a1.Prices.getD x3.toNat dd)),(5,vb true)],[]⟩ ?_;obtain rfl:=oi hm;refine q_rt (zJ ((a1.Prices.getD x3.toNat dd),true) ?_);exact q_rm
  ·refine q_ex 0 ?_;obtain rfl:=oi hm;exact q_l1 ()
theorem qNJ (a1:qE) (a2:Int) (r:Int×Bool) (hm:NC a1 a2=some r):CtX Tryz.prog globs 283 0 0 [.agg (qP a1),.one (ci a2)] [] (qA4 r) (qAS r):=by
 unfold NC at hm;refine q_E f283 30 λE=>?_;refine s_vn [] 0 ⟨[(1,vi a2),(2,vp 0 0)],[(0,bx 74 (qP a1))]⟩ (q_sq ?_);refine s_va 1 [(9,vc (tl qD dd a1.Lengths)),(10,vi (a1.Lengths.length:Int)),(11,vi 0)] ?_;obtain⟨u11,h10,hm⟩:=qC hm;refine zO (nd f283 52) 0 (by kernel_rfl) FUEL (λo=>qDg) (λv st=>RetQ Tryz.prog f283 (qA4 v) (qAS v) .ret st) u11 (q_hl (LO a1 a2 0) (qJy E a1 a2 FUEL 0 u11 h10)) ?_ ?_
 ·rintro v12 rfl st hr;obtain rfl:=oi hm;exact hr
 ·rintro o9 rfl;replace hm:_=some r:=hm;refine s_vn [] 1 ⟨[(4,vi 0),(5,vb false)],[]⟩ ?_;obtain rfl:=oi hm;exact q_rt q_rm
open Go.Proofs Go.Proofs.Tryz
def qEV (r:Box):V:=va (ZJ r)
def BQ (r:Box):List (Nat×(Nat×O)):=[]
theorem qNR (r:Box):ZE (BQ r):=by
 intro i k o h;unfold BQ at h;cases h
theorem qDJ (a1:zF) (a2:Span) (r:Box) (hm:SV a1 a2=some r):CtX Tryz.prog globs 280 0 0 [.agg (LI a1),.agg (qK a2)] [] (qEV r) (BQ r):=by
 unfold SV at hm;refine q_E f280 13 λE=>?_;refine s_vn [] 0 ⟨[(2,vp 0 0),(3,vp 1 0),(4,vp 2 0)],[(0,bx 282 (LI a1)),(1,bx 53 (qK a2)),(2,bx 85 [ci 0,ci 0,ci 0,ci 0,ci 0,ci 0])]⟩ (s_vn [] 3 ⟨[(4,vp 2 0)],[(2,bx 85 [ci a1.rect.X.A,ci a1.rect.X.B,ci a1.rect.Y.A,ci a1.rect.Y.B,ci a2.A,ci a2.B])]⟩ ?_);obtain rfl:=oi hm;exact q_rt q_rm
def qSt (r:Int):V:=vi r
def qSN (r:Int):List (Nat×(Nat×O)):=[]
def ML (a1:List qY) (a2:Span) (x4:Int):St:=
 ⟨[(3,vp 0 0),(8,vc (tl zH dd a1)),(9,vi (a1.length:Int)),(10,vi x4)],[(0,bx 53 (qK a2))]⟩
def qM9 (a1:List qY) (a2:Span) (x4:Int) (x10:Int):St:=
 (ML a1 a2 x4).up [] [(5,vi x10)] [] []
def qMV (a1:List qY) (a2:Span) (x3:Int) (x4:Int) (x8:Bool):St:=
 (ML a1 a2 x4).up [] [(5,vi x3),(7,vp 1 0),(27,vb x8)] [] [(1,bx 305 (zH (a1.getD x4.toNat dd)))]
def OD (a1:List qY) (a2:Span) (x3:Int) (x4:Int):St:=
 (ML a1 a2 x4).up [] [(5,vi x3)] [] []
def qFo (x11:Int):St:=
 ⟨[(5,vi x11)],[]⟩
theorem qLN (E:Env 0) (a1:List qY) (a2:Span):∀(n:Nat) (x3:Int) (x4:Int) (res:Int),QU a1 a2 n x3 x4=some res->HL (kx E 34 0) (nd f284 116) (zL 0 qFo res) n (OD a1 a2 x3 x4):=by
 intro n
 induction n with
 |zero=>
  intro x3 x4 res hm;cases hm
 |succ n ih=>
  intro x3 x4 res hm;refine qS (s_va 1 [(11,vb (decide (x4<(a1.length:Int))))] ?_);refine q_sq (q_cq hm (λhm=>?_) (λhm=>?_))
  ·refine q_sk (q_jn (qM9 a1 a2 x4) (λp=>qB4 x4 (QU a1 a2 n) p=some res) ?_ ?_)
   ·rintro x10 hm;exact q_vv [] 2 [10] [(10,vi (w64 (x4+1)))] (q_hl (OD a1 a2 x10 (w64 (x4+1))) (ih x10 (w64 (x4+1)) _ hm))
   ·refine q_bk 1 ?_;obtain⟨g6,hm⟩:=qJ hm;refine s_vu [qi 0 g6] 1 [11] [(7,vp 1 0)] [] [(1,bx 305 (zH (a1.getD x4.toNat dd)))] (q_jn (qMV a1 a2 x3 x4) (λp=>qBl a1 x3 x4 (QU a1 a2 n) p=some res) ?_ ?_)
    ·rintro x8 hm;refine q_cq hm (λhm=>?_) (λhm=>?_)
     ·exact q_vu [] 2 [5,7,27] [(5,vi (imax x3 ((a1.getD x4.toNat dd).lack)))] [1] [] (q_J (imax x3 ((a1.getD x4.toNat dd).lack)) hm)
     ·exact q_sk (q_J (x3) hm)
    ·rcases bif_c hm with⟨b7,hm⟩|⟨b7,hm⟩
     ·exact q_vv [qf 6 b7] 2 [] [(27,vb (decide (a2.A<(((a1.getD x4.toNat dd).z).B))))] (q_J (decide (a2.A<(((a1.getD x4.toNat dd).z).B))) hm)
     ·exact q_vv [qf 6 b7] 2 [] [(27,vb false)] (q_J (false) hm)
  ·refine q_ex 0 ?_;obtain rfl:=oi hm;exact q_l0
theorem qQE (a1:List qY) (a2:Span) (r:Int) (hm:AH a1 a2=some r):CtX Tryz.prog globs 284 0 0 [.one (tl zH dd a1),.agg (qK a2)] [] (qSt r) (qSN r):=by
 unfold AH at hm;refine q_E f284 34 λE=>?_;refine s_vn [] 0 ⟨[(0,vc (tl zH dd a1)),(3,vp 0 0)],[(0,bx 53 (qK a2))]⟩ (s_va 1 [(5,vi 0)] ?_);refine q_sq (s_vv [] 1 [0] [(8,vc (tl zH dd a1)),(9,vi (a1.length:Int)),(10,vi 0)] ?_);obtain⟨o12,h13,hm⟩:=qC hm;refine zG (nd f284 116) 0 (by kernel_rfl) FUEL qFo o12 (q_hl (OD a1 a2 0 0) (qLN E a1 a2 FUEL 0 0 o12 h13)) (s_vn [] 1 ⟨[(4,vi o12)],[]⟩ ?_);obtain rfl:=oi hm;exact q_rt q_rm
def UE (r:Int×Bool):V:= .tup [.one (ci r.1),.one (cb r.2)]
def WA (r:Int×Bool):List (Nat×(Nat×O)):=[]
theorem qK3 (r:Int×Bool):ZE (WA r):=by
 intro i k o h;unfold WA at h;cases h
def qHL (a1:zF) (a3:Int) (v14:Box) (x17:Int) (x24:Int):St:=
 ⟨[(2,vi a3),(8,vi x24),(10,vp 2 0),(45,vc (tl qM dd a1.defects)),(46,vi (a1.defects.length:Int)),(47,vi x17)],[(2,bx 85 (ZJ v14))]⟩
def GK (a1:zF) (a3:Int) (v14:Box) (x16:Int) (x17:Int):St:=
 ⟨[(2,vi a3),(8,vi x16),(10,vp 2 0),(45,vc (tl qM dd a1.defects)),(46,vi (a1.defects.length:Int)),(47,vi x17)],[(2,bx 85 (ZJ v14))]⟩
def CL (x25:Int):St:=
 ⟨[(8,vi x25)],[]⟩
def qHA (a1:zF) (a2:Span) (a3:Int) (v7:Int×Bool) (x12:Bool):St:=
 ⟨[(2,vi a3),(3,vp 0 0),(4,vp 1 0),(8,vi v7.1),(40,vb x12)],[(0,bx 282 (LI a1)),(1,bx 53 (qK a2))]⟩
theorem qGX (E:Env 0) (a1:zF) (a3:Int) (v14:Box):∀(n:Nat) (x16:Int) (x17:Int) (res:(Int×Bool)⊕Int),jO a1 a3 v14 n x16 x17=some res->HL (kx E 64 0) (nd f264 1012) (wL 0 CL (λv st=>RetQ Tryz.prog f264 (UE v) (WA v) .ret st) res) n (GK a1 a3 v14 x16 x17):=by
 intro n
 induction n with
 |zero=>
  intro x16 x17 res hm;cases hm
 |succ n ih=>
  intro x16 x17 res hm;refine qS (s_va 3 [(48,vb (decide (x17<(a1.defects.length:Int))))] ?_);refine q_sq (q_cq hm (λhm=>?_) (λhm=>?_))
  ·refine q_sk (q_jn (qHL a1 a3 v14 x17) (λp=>NZ x17 (jO a1 a3 v14 n) p=some res) ?_ ?_)
   ·rintro x24 hm;exact q_vv [] 4 [47] [(47,vi (w64 (x17+1)))] (q_hl (GK a1 a3 v14 x24 (w64 (x17+1))) (ih x24 (w64 (x17+1)) _ hm))
   ·refine q_bk 1 ?_;obtain⟨g19,hm⟩:=qJ hm;refine s_vu [qi 0 g19] 3 [48] [(12,vp 3 0)] [] [(3,bx 87 (qM (a1.defects.getD x17.toNat dd)))] (q_sq ?_);obtain⟨v20,h21,hm⟩:=qC hm;refine s_vv [qc 2 [51,52] 4 (qD2 (a1.defects.getD x17.toNat dd) v14 v20 h21)] 4 [] [(54,vb (!v20))] (q_cq hm (λhm=>?_) (λhm=>?_))
    ·exact q_ex 1 (q_J (x16) hm)
    ·refine q_sk (q_sq ?_);refine s_vu [] 4 [12,54] [(57,vb (((a1.defects.getD x17.toNat dd).Kind)==3))] [3] [] (q_cq hm (λhm=>?_) (λhm=>?_))
     ·refine s_vn [] 4 ⟨[(6,vi 0),(7,vb false)],[]⟩ ?_;obtain rfl:=oi hm;refine q_rt (zJ (0,false) ?_);exact q_rm
     ·refine q_sk (q_vv [] 4 [8,57] [(8,vi (w64 (x16-a3)))] ?_);exact q_J (w64 (x16-a3)) hm
  ·refine q_ex 0 ?_;obtain rfl:=oi hm;exact q_l1 x16
theorem qJJ (a1:zF) (a2:Span) (a3:Int) (r:Int×Bool) (hm:RK a1 a2 a3=some r):CtX Tryz.prog globs 264 0 0 [.agg (LI a1),.agg (qK a2),.one (ci a3)] [] (UE r) (WA r):=by
 unfold RK at hm;refine q_E f264 64 λE=>?_;refine s_vn [] 0 ⟨[(2,vi a3),(3,vp 0 0),(4,vp 1 0)],[(0,bx 282 (LI a1)),(1,bx 53 (qK a2))]⟩ (q_sq ?_);obtain⟨v4,h5,hm⟩:=qC hm;refine s_vv [qc 3 [13,15] 2 (qLR a2 a1.length v4 h5)] 2 [] [(17,vb (!v4))] (q_cq hm (λhm=>?_) (λhm=>?_))
 ·refine s_vn [] 2 ⟨[(6,vi 0),(7,vb false)],[]⟩ ?_;obtain rfl:=oi hm;exact q_rt q_rm
 ·refine q_sk ?_;obtain⟨v7,h8,hm⟩:=qC hm;refine s_vv [qc 7 [20,25] 2 (qNJ a1.product (w64 (a2.B-a2.A)) v7 h8)] 2 [17] [(8,vi v7.1),(9,vb v7.2)] (q_sq ?_);refine q_jn (qHA a1 a2 a3 v7) (λp=>RX a1 a2 a3 v7 p=some r) ?_ ?_
  ·rintro x12 hm;refine q_cq hm (λhm=>?_) (λhm=>?_)
   ·refine s_vn [] 2 ⟨[(6,vi 0),(7,vb false)],[]⟩ ?_;obtain rfl:=oi hm;exact q_rt q_rm
   ·refine q_sk ?_;obtain⟨v14,h15,hm⟩:=qC hm;refine s_vu [qc 2 [41,42] 2 (qDJ a1 a2 v14 h15)] 2 [4,40] [(10,vp 2 0)] [1] [(2,bx 85 (ZJ v14))] (q_sq ?_);refine s_vu [] 3 [3] [(45,vc (tl qM dd a1.defects)),(46,vi (a1.defects.length:Int)),(47,vi 0)] [0] [] ?_;obtain⟨u28,h27,hm⟩:=qC hm;refine zO (nd f264 1012) 0 (by kernel_rfl) FUEL CL (λv st=>RetQ Tryz.prog f264 (UE v) (WA v) .ret st) u28 (q_hl (GK a1 a3 v14 v7.1 0) (qGX E a1 a3 v14 FUEL v7.1 0 u28 h27)) ?_ ?_
    ·rintro v29 rfl st hr;obtain rfl:=oi hm;exact hr
    ·rintro o26 rfl;replace hm:_=some r:=hm;refine s_vn [] 3 ⟨[(6,vi (imax o26 0)),(7,vb true)],[]⟩ ?_;obtain rfl:=oi hm;exact q_rt q_rm
  ·rcases bif_c hm with⟨b9,hm⟩|⟨b9,hm⟩
   ·exact q_du [qf 2 b9] [0,1,3,7,15,7,63,7,135,391,1023,2047] 2 [9] [(40,vb true)] [] [] (q_J (true) hm)
   ·obtain⟨v10,h11,hm⟩:=qC hm;exact q_du [qf 2 b9,qk 6 [31,33,34] 2 ⟨[(31,vb false),(33,vc (tl zH dd a1.zones)),(34,va (qK a2))],[]⟩ (qQE a1.zones a2 v10 h11)] [0,1,3,7,15,7,63,7,135,391,1023,2047] 2 [9] [(40,vb (decide (v10>a1.product.Wane)))] [] [] (q_J (decide (v10>a1.product.Wane)) hm)
open Go.Proofs Go.Proofs.Tryz
def qQM (r:Int):V:=vi r
def qQZ (r:Int):List (Nat×(Nat×O)):=[]
def EO (v2:(List qN)) (x4:Int) (x5:Int):St:=
 ⟨[(3,vi x4),(7,vc (tl qR dd v2)),(8,vi (v2.length:Int)),(9,vi x5)],[]⟩
def qD0 (x8:Int):St:=
 ⟨[(3,vi x8)],[]⟩
theorem qKN (E:Env 0) (v2:(List qN)):∀(n:Nat) (x4:Int) (x5:Int) (res:Int),XN v2 n x4 x5=some res->HL (kx E 19 0) (nd f122 116) (zL 0 qD0 res) n (EO v2 x4 x5):=by
 intro n
 induction n with
 |zero=>
  intro x4 x5 res hm;cases hm
 |succ n ih=>
  intro x4 x5 res hm;refine qS (s_va 0 [(10,vb (decide (x5<(v2.length:Int))))] ?_);refine q_sq (q_cq hm (λhm=>?_) (λhm=>?_))
  ·refine q_sk (q_sq ?_);refine q_bk 1 ?_;obtain⟨g7,hm⟩:=qJ hm;refine s_vu [qi 0 g7] 0 [10] [(5,vp 0 0)] [] [(0,bx 80 (qR (v2.getD x5.toNat dd)))] (q_vu [] 1 [3,5] [(3,vi (w64 (x4+((v2.getD x5.toNat dd).Len))))] [0] [] ?_);exact q_vv [] 1 [9] [(9,vi (w64 (x5+1)))] (q_hl (EO v2 (w64 (x4+((v2.getD x5.toNat dd).Len))) (w64 (x5+1))) (ih (w64 (x4+((v2.getD x5.toNat dd).Len))) (w64 (x5+1)) _ hm))
  ·refine q_ex 0 ?_;obtain rfl:=oi hm;exact q_l0
theorem FL (a1:List qN) (r:Int) (hm:XF a1=some r):CtX Tryz.prog globs 122 0 0 [.one (tl qR dd a1)] [] (qQM r) (qQZ r):=by
 unfold XF at hm;refine q_E f122 19 λE=>?_;refine s_vn [] 0 ⟨[(0,vc (tl qR dd a1))],[]⟩ (s_va 0 [(3,vi 0)] ?_);refine q_sq ?_;obtain⟨v2,h3,hm⟩:=qC hm;refine s_vv [qc 1 [6] 0 (ST a1 v2 h3)] 0 [0] [(7,vc (tl qR dd v2)),(8,vi (v2.length:Int)),(9,vi 0)] ?_;obtain⟨o9,h10,hm⟩:=qC hm;refine zG (nd f122 116) 0 (by kernel_rfl) FUEL qD0 o9 (q_hl (EO v2 0 0) (qKN E v2 FUEL 0 0 o9 h10)) (s_vn [] 0 ⟨[(2,vi o9)],[]⟩ ?_);obtain rfl:=oi hm;exact q_rt q_rm
def qV3 (r:Int):V:=vc (.val (.int .u64 r))
def qWy (r:Int):List (Nat×(Nat×O)):=[]
theorem qU3 (a1:Span) (r:Int) (hm:qCD a1=some r):CtX Tryz.prog globs 87 0 0 [.agg (qK a1)] [] (qV3 r) (qWy r):=by
 unfold qCD at hm;refine q_E f87 15 λE=>?_;refine s_vn [] 0 ⟨[(1,vp 0 0)],[(0,bx 53 (qK a1))]⟩ (q_sq ?_);refine s_va 1 [(7,vb (decide (a1.A≥a1.B)))] (q_cq hm (λhm=>?_) (λhm=>?_))
 ·refine s_vn [] 1 ⟨[(2,vc (.val (.int .u64 0)))],[]⟩ ?_;obtain rfl:=oi hm;exact q_rt q_rm
 ·refine q_sk (s_vn [] 1 ⟨[(2,vc (.val (.int .u64 (IntKind.u64.wrap ((IntKind.u64.wrap (a1.B))-(IntKind.u64.wrap (a1.A)))))))],[]⟩ ?_);obtain rfl:=oi hm;exact q_rt q_rm
def qQ4 (r:Int):V:=vi r
def qRh (r:Int):List (Nat×(Nat×O)):=[]
theorem qOQ (a1:Int) (r:Int) (hm:HD a1=some r):CtX Tryz.prog globs 86 0 0 [.one (.val (.int .u64 a1))] [] (qQ4 r) (qRh r):=by
 unfold HD at hm;refine q_E f86 6 λE=>?_;refine s_vn [] 0 ⟨[(0,vc (.val (.int .u64 a1)))],[]⟩ (s_vn [] 0 ⟨[(2,vi (w64 (imin a1 9223372036854775807)))],[]⟩ ?_);obtain rfl:=oi hm;exact q_rt q_rm
open Go.Proofs Go.Proofs.Tryz
def qXM (r:Int):V:=vi r
def qXG (r:Int):List (Nat×(Nat×O)):=[]
theorem qCy (a1:Span) (r:Int) (hm:XX a1=some r):CtX Tryz.prog globs 44 0 0 [.agg (qK a1)] [] (qXM r) (qXG r):=by
 unfold XX at hm;refine q_E f44 6 λE=>?_;refine s_vn [] 0 ⟨[(1,vp 0 0)],[(0,bx 53 (qK a1))]⟩ ?_;obtain⟨v2,h3,hm⟩:=qC hm;obtain⟨v4,h5,hm⟩:=qC hm;refine s_vn [qc 1 [3] 1 (qU3 a1 v2 h3),qc 2 [4] 1 (qOQ v2 v4 h5)] 1 ⟨[(2,vi v4)],[]⟩ ?_;obtain rfl:=oi hm;exact q_rt q_rm
def qNZ (r:Int):V:=vi r
def qNp (r:Int):List (Nat×(Nat×O)):=[]
def FB (a2:Rect) (v3:qH) (x5:Int) (x6:Int):St:=
 ⟨[(2,vp 0 0),(3,vp 1 0),(5,vi x5),(12,vc (tl qK dd v3.Rows)),(13,vi (v3.Rows.length:Int)),(14,vi x6)],[(0,bx 78 (qZ v3)),(1,bx 55 (qT a2))]⟩
def qBc (x19:Int):St:=
 ⟨[(5,vi x19)],[]⟩
theorem qI1 (E:Env 0) (a2:Rect) (v3:qH):∀(n:Nat) (x5:Int) (x6:Int) (res:Int),JE a2 v3 n x5 x6=some res->HL (kx E 44 0) (nd f184 244) (zL 0 qBc res) n (FB a2 v3 x5 x6):=by
 intro n
 induction n with
 |zero=>
  intro x5 x6 res hm;cases hm
 |succ n ih=>
  intro x5 x6 res hm;refine qS (s_va 2 [(15,vb (decide (x6<(v3.Rows.length:Int))))] ?_);refine q_sq (q_cq hm (λhm=>?_) (λhm=>?_))
  ·refine q_sk (q_sq ?_);refine q_bk 1 ?_;obtain⟨g8,hm⟩:=qJ hm;refine s_vu [qi 1 g8] 2 [15] [(6,vi x6),(7,vp 2 0)] [] [(2,bx 53 (qK (v3.Rows.getD x6.toNat dd)))] ?_;obtain⟨v9,h10,hm⟩:=qC hm;refine s_vu [qc 9 [22,27] 3 (HF (w64 (v3.Low+x6)) (w64 ((w64 (v3.Low+x6))+1)) v9 h10)] 3 [6] [(8,vp 3 0)] [] [(3,bx 53 (qK v9))] ?_;obtain⟨v11,h12,hm⟩:=qC hm;obtain⟨v13,h14,hm⟩:=qC hm;obtain⟨v15,h16,hm⟩:=qC hm;obtain⟨v17,h18,hm⟩:=qC hm
   refine q_du [qc 4 [30,32] 4 (RJ (v3.Rows.getD x6.toNat dd) a2.X v11 h12),qc 5 [33] 4 (qCy v11 v13 h14),qc 9 [35,37] 4 (RJ v9 a2.Y v15 h16),qc 10 [38] 4 (qCy v15 v17 h18)] [0,0,0,4,14,30,0,0,128,510,1022,2046,4095,8191] 4 [5,7,8] [(5,vi (w64 (x5+(w64 (v13*v17)))))] [2,3] [] (q_vv [] 4 [14] [(14,vi (w64 (x6+1)))] ?_);exact q_hl (FB a2 v3 (w64 (x5+(w64 (v13*v17)))) (w64 (x6+1))) (ih (w64 (x5+(w64 (v13*v17)))) (w64 (x6+1)) _ hm)
  ·refine q_ex 0 ?_;obtain rfl:=oi hm;exact q_l0
theorem qD3 (a1:qH) (a2:Rect) (r:Int) (hm:PR a1 a2=some r):CtX Tryz.prog globs 184 0 0 [.agg (qZ a1),.agg (qT a2)] [] (qNZ r) (qNp r):=by
 unfold PR at hm;refine q_E f184 44 λE=>?_;refine s_vn [] 0 ⟨[(2,vp 0 0),(3,vp 1 0)],[(0,bx 78 (qZ a1)),(1,bx 55 (qT a2))]⟩ ?_;obtain⟨v3,h4,hm⟩:=qC hm;refine s_vu [qc 1 [9] 2 (RM a1 v3 h4)] 2 [] [] [0] [(0,bx 78 (qZ v3))] (s_va 2 [(5,vi 0)] ?_);refine q_sq (s_va 2 [(12,vc (tl qK dd v3.Rows)),(13,vi (v3.Rows.length:Int)),(14,vi 0)] ?_);obtain⟨o20,h21,hm⟩:=qC hm;refine zG (nd f184 244) 0 (by kernel_rfl) FUEL qBc o20 (q_hl (FB a2 v3 0 0) (qI1 E a2 v3 FUEL 0 0 o20 h21)) (s_vn [] 2 ⟨[(4,vi o20)],[]⟩ ?_);obtain rfl:=oi hm;exact q_rt q_rm
def qSG (r:(List qY)):V:=vo 0 0 3 r.length
def qSR (r:(List qY)):List (Nat×(Nat×O)):=[(0,ro 0 305 3 r.length (rf zH r))]
def OC (a1:List qN) (a2:Rect) (l3:List qY) (l3n:Nat) (x4:Int) (x5:Int):St:=
 ⟨[(3,vp 0 0),(5,vi (w64 ((w64 (a2.X.B-a2.X.A))*(w64 (a2.Y.B-a2.Y.A))))),(6,vo 1 0 3 l3n),(7,vi x4),(27,vc (tl qR dd a1)),(28,vi (a1.length:Int)),(29,vi x5)],[(0,bx 55 (qT a2)),(1,ro 0 305 3 l3n (rf zH l3))]⟩
def qFm (l12:List qY):St:=
 ⟨[(6,vo 1 0 3 l12.length)],[(1,ro 0 305 3 l12.length (rf zH l12))]⟩
theorem qL1 (E:Env 0) (a1:List qN) (a2:Rect):∀(n:Nat) (l3:List qY) (l3n:Nat) (x4:Int) (x5:Int) (res:(List qY)),l3.length=l3n->PI a1 a2 n l3 x4 x5=some res->HL (kx E 61 0) (nd f279 500) (zL 0 qFm res) n (OC a1 a2 l3 l3n x4 x5):=by
 intro n
 induction n with
 |zero=>
  intro l3 l3n x4 x5 res hl0 hm;cases hm
 |succ n ih=>
  intro l3 l3n x4 x5 res hl0 hm;subst hl0;refine qS (s_va 2 [(30,vb (decide (x5<(a1.length:Int))))] ?_);refine q_sq (q_cq hm (λhm=>?_) (λhm=>?_))
  ·refine q_sk (q_sq ?_);refine q_bk 1 ?_;obtain⟨g7,hm⟩:=qJ hm;refine s_vu [qi 0 g7] 2 [30] [(9,vp 2 0)] [] [(2,bx 80 (qR (a1.getD x5.toNat dd)))] ?_;obtain⟨v8,h9,hm⟩:=qC hm;refine s_vv [qc 4 [35,36] 3 (qD3 ((a1.getD x5.toNat dd).Sec) a2 v8 h9)] 3 [] [(10,vi (w64 ((w64 ((w64 (a2.X.B-a2.X.A))*(w64 (a2.Y.B-a2.Y.A))))-v8)))] (s_vu [] 3 [7,9] [(11,vp 3 0)] [2] [(3,bx 53 [ci x4,ci (w64 (x4+((a1.getD x5.toNat dd).Len)))])] ?_);obtain⟨g10,hm⟩:=qJ hm;obtain⟨g11,hm⟩:=qJ hm
   refine s_du [qd 8 dN (IM g10),qd 10 (drw 4 0 (rf zH [(qY.mk (Span.mk x4 (w64 (x4+((a1.getD x5.toNat dd).Len)))) (w64 (Int.tdiv (w64 ((w64 ((w64 (1000*(w64 ((w64 ((w64 (a2.X.B-a2.X.A))*(w64 (a2.Y.B-a2.Y.A))))-v8))))+(w64 ((w64 (a2.X.B-a2.X.A))*(w64 (a2.Y.B-a2.Y.A))))))-1)) (w64 ((w64 (a2.X.B-a2.X.A))*(w64 (a2.Y.B-a2.Y.A)))))))])) (litP zH dd 3 (λ_=>rfl) ([(qY.mk (Span.mk x4 (w64 (x4+((a1.getD x5.toNat dd).Len)))) (w64 (Int.tdiv (w64 ((w64 ((w64 (1000*(w64 ((w64 ((w64 (a2.X.B-a2.X.A))*(w64 (a2.Y.B-a2.Y.A))))-v8))))+(w64 ((w64 (a2.X.B-a2.X.A))*(w64 (a2.Y.B-a2.Y.A))))))-1)) (w64 ((w64 (a2.X.B-a2.X.A))*(w64 (a2.Y.B-a2.Y.A)))))))]:List qY) 1 rfl),qd 11 (drw 1 1 (rf zH (l3++[(qY.mk (Span.mk x4 (w64 (x4+((a1.getD x5.toNat dd).Len)))) (w64 (Int.tdiv (w64 ((w64 ((w64 (1000*(w64 ((w64 ((w64 (a2.X.B-a2.X.A))*(w64 (a2.Y.B-a2.Y.A))))-v8))))+(w64 ((w64 (a2.X.B-a2.X.A))*(w64 (a2.Y.B-a2.Y.A))))))-1)) (w64 ((w64 (a2.X.B-a2.X.A))*(w64 (a2.Y.B-a2.Y.A)))))))]))) (apP zH dd l3 ([(qY.mk (Span.mk x4 (w64 (x4+((a1.getD x5.toNat dd).Len)))) (w64 (Int.tdiv (w64 ((w64 ((w64 (1000*(w64 ((w64 ((w64 (a2.X.B-a2.X.A))*(w64 (a2.Y.B-a2.Y.A))))-v8))))+(w64 ((w64 (a2.X.B-a2.X.A))*(w64 (a2.Y.B-a2.Y.A))))))-1)) (w64 ((w64 (a2.X.B-a2.X.A))*(w64 (a2.Y.B-a2.Y.A)))))))]:List qY) l3.length 1 3 24 (1<=1) (ke _) rfl rfl (λ_=>rfl) (wA g11))] [0,0,0,4,0,28,60,0,252,510,1022,2047,4095] 4 [6,10] [(6,vo 1 1 3 (l3.length+1))] [1] [(1,ro 1 305 3 (l3.length+1) (rf zH (l3++[(qY.mk (Span.mk x4 (w64 (x4+((a1.getD x5.toNat dd).Len)))) (w64 (Int.tdiv (w64 ((w64 ((w64 (1000*(w64 ((w64 ((w64 (a2.X.B-a2.X.A))*(w64 (a2.Y.B-a2.Y.A))))-v8))))+(w64 ((w64 (a2.X.B-a2.X.A))*(w64 (a2.Y.B-a2.Y.A))))))-1)) (w64 ((w64 (a2.X.B-a2.X.A))*(w64 (a2.Y.B-a2.Y.A)))))))])))] ?_
   refine q_vu [] 5 [11] [(7,vi (w64 (x4+((a1.getD x5.toNat dd).Len))))] [3] [] (q_vv [] 5 [29] [(29,vi (w64 (x5+1)))] ?_)
   exact q_hl (OC a1 a2 (l3++[(qY.mk (Span.mk x4 (w64 (x4+((a1.getD x5.toNat dd).Len)))) (w64 (Int.tdiv (w64 ((w64 ((w64 (1000*(w64 ((w64 ((w64 (a2.X.B-a2.X.A))*(w64 (a2.Y.B-a2.Y.A))))-v8))))+(w64 ((w64 (a2.X.B-a2.X.A))*(w64 (a2.Y.B-a2.Y.A))))))-1)) (w64 ((w64 (a2.X.B-a2.X.A))*(w64 (a2.Y.B-a2.Y.A)))))))]) (l3.length+1) (w64 (x4+((a1.getD x5.toNat dd).Len))) (w64 (x5+1))) (ih (l3++[(qY.mk (Span.mk x4 (w64 (x4+((a1.getD x5.toNat dd).Len)))) (w64 (Int.tdiv (w64 ((w64 ((w64 (1000*(w64 ((w64 ((w64 (a2.X.B-a2.X.A))*(w64 (a2.Y.B-a2.Y.A))))-v8))))+(w64 ((w64 (a2.X.B-a2.X.A))*(w64 (a2.Y.B-a2.Y.A))))))-1)) (w64 ((w64 (a2.X.B-a2.X.A))*(w64 (a2.Y.B-a2.Y.A)))))))]) (l3.length+1) (w64 (x4+((a1.getD x5.toNat dd).Len))) (w64 (x5+1)) _ (wB rfl rfl) hm)
  ·refine q_ex 0 ?_;obtain rfl:=oi hm;exact q_l0
theorem qRl (a1:List qN) (a2:Rect) (r:(List qY)) (hm:AP a1 a2=some r):CtX Tryz.prog globs 279 0 0 [.one (tl qR dd a1),.agg (qT a2)] [] (qSG r) (qSR r):=by
 unfold AP at hm;refine q_E f279 61 λE=>?_;refine s_vn [] 0 ⟨[(0,vc (tl qR dd a1)),(3,vp 0 0)],[(0,bx 55 (qT a2))]⟩ (s_va 1 [(5,vi (w64 ((w64 (a2.X.B-a2.X.A))*(w64 (a2.Y.B-a2.Y.A)))))] ?_);refine s_va 1 [(6,vc (.emp))] (s_va 1 [(7,vi 0)] ?_);refine q_sq (s_vv [] 1 [0] [(27,vc (tl qR dd a1)),(28,vi (a1.length:Int)),(29,vi 0)] ?_);refine q_fo 6 1 305 3 zH ?_;obtain⟨o13,h14,hm⟩:=qC hm;refine zG (nd f279 500) 0 (by kernel_rfl) FUEL qFm o13 (q_hl (OC a1 a2 ([]:List qY) 0 0 0) (qL1 E a1 a2 FUEL ([]:List qY) 0 0 0 o13 rfl h14)) (s_vv [] 2 [6] [(4,vo 1 0 3 o13.length)] ?_);obtain rfl:=oi hm
 exact q_sw 1 0 (q_rt q_rm)
end Saw
end Go.SL
