import Derived.Test.YtigmogcdifllhaaGreatDoorEBase
set_option linter.unusedVariables false
set_option linter.unusedSimpArgs false
namespace Go.SL
namespace Saw
open Go.Proofs Go.Proofs.Tryz
set_option maxHeartbeats 4000000
set_option maxRecDepth 100000
def qUE (r:Scan):V:=va [.own 0 0 2 r.Rings.length,.own 1 0 7 r.Defects.length]
def qU2 (r:Scan):List (Nat×(Nat×O)):=[(0,ro 0 71 2 r.Rings.length (rf zC r.Rings)),(1,ro 0 87 7 r.Defects.length (rf qN r.Defects))]
def EX (x1:Int) (l2:List Ring):St:=
 ⟨[(0,vp 0 0),(1,vo 1 0 2 8),(2,vp 2 0),(3,vi x1),(4,vp 4 0)],[(0,bx 25 [.emp,.emp]),(1,ro 0 93 2 8 (rf qF [(qA.mk 60 30),(qA.mk 0 30),(qA.mk (-60) 30),(qA.mk (-60) 0),(qA.mk (-60) (-30)),(qA.mk 0 (-30)),(qA.mk 60 (-30)),(qA.mk 60 0)])),(2,bx 25 [.own 3 0 2 l2.length,.emp]),(3,ro 0 71 2 l2.length (rf zC l2))]⟩
def qAh (x1:Int) (l2:List Ring) (x4:Int) (l5:List qP) (l5n:Nat):St:=
 (EX x1 l2).up [] [(5,vi x4)] [] [(4,bx 71 [ci (w64 (3000*x1)),.own 5 0 3 l5n]),(5,ro 0 95 3 l5n (rf qX l5))]
def qGn (x1:Int) (l2:List Ring) (l9:List qP):St:=
 (EX x1 l2).up [] [] [] [(4,bx 71 [ci (w64 (3000*x1)),.own 5 0 3 l9.length]),(5,ro 0 95 3 l9.length (rf qX l9))]
def qAl (x1:Int) (l2:List Ring) (l2n:Nat):St:=
 (EX x1 l2).up [4] [] [2,3] [(2,bx 25 [.own 3 0 2 l2n,.emp]),(3,ro 0 71 2 l2n (rf zC l2))]
def qGH (l13:List Ring):St:=
 ⟨[(0,vp 0 0),(2,vp 2 0)],[(0,bx 25 [.emp,.emp]),(2,bx 25 [.own 3 0 2 l13.length,.emp]),(3,ro 0 71 2 l13.length (rf zC l13))]⟩
theorem qOq (E:Env 0) (x1:Int) (l2:List Ring):∀(n:Nat) (x4:Int) (l5:List qP) (l5n:Nat) (res:(List qP)),l5.length=l5n->qDA n x4 l5=some res->HL (kx E 45 0) (nd f22 62612) (zN 2 (λo=>qGn x1 l2 o) res) n (qAh x1 l2 x4 l5 l5n):=by
 intro n
 induction n with
 |zero=>
  intro x4 l5 l5n res hl0 hm;cases hm
 |succ n ih=>
  intro x4 l5 l5n res hl0 hm;subst hl0;refine qU (q_sq ?_);refine s_va 6 [(25,vb (decide (x4<((8:Nat):Int))))] (q_cq hm (λhm=>?_) (λhm=>?_))
  ·refine q_sk (q_sq ?_);refine q_bk 3 ?_;obtain⟨g7,hm⟩:=qJ hm;obtain⟨g8,hm⟩:=qJ hm
   refine q_du [qi 4 g7,qd 5 dN (qT (zB g7)),qd 7 (drw 6 0 (rf qX ([(qP.mk (([(qA.mk 60 30),(qA.mk 0 30),(qA.mk (-60) 30),(qA.mk (-60) 0),(qA.mk (-60) (-30)),(qA.mk 0 (-30)),(qA.mk 60 (-30)),(qA.mk 60 0)]:List qA).getD x4.toNat du) true)]:List qP))) (litP qX du 3 (λ_=>rfl) ([(qP.mk (([(qA.mk 60 30),(qA.mk 0 30),(qA.mk (-60) 30),(qA.mk (-60) 0),(qA.mk (-60) (-30)),(qA.mk 0 (-30)),(qA.mk 60 (-30)),(qA.mk 60 0)]:List qA).getD x4.toNat du) true)]:List qP) 1 rfl),qd 8 (drw 5 1 (rf qX (l5++([(qP.mk (([(qA.mk 60 30),(qA.mk 0 30),(qA.mk (-60) 30),(qA.mk (-60) 0),(qA.mk (-60) (-30)),(qA.mk 0 (-30)),(qA.mk 60 (-30)),(qA.mk 60 0)]:List qA).getD x4.toNat du) true)]:List qP)))) (apP qX du l5 ([(qP.mk (([(qA.mk 60 30),(qA.mk 0 30),(qA.mk (-60) 30),(qA.mk (-60) 0),(qA.mk (-60) (-30)),(qA.mk 0 (-30)),(qA.mk 60 (-30)),(qA.mk 60 0)]:List qA).getD x4.toNat du) true)]:List qP) l5.length 1 3 24 (1<=1) (ke _) rfl rfl (λ_=>rfl) (wB g8))] [0,1,0,0,12,28,60,124,255,511,1023] 6 [25] [] [4,5] [(4,bx 71 [ci (w64 (3000*x1)),.own 5 1 3 (l5.length+1)]),(5,ro 1 95 3 (l5.length+1) (rf qX (l5++([(qP.mk (([(qA.mk 60 30),(qA.mk 0 30),(qA.mk (-60) 30),(qA.mk (-60) 0),(qA.mk (-60) (-30)),(qA.mk 0 (-30)),(qA.mk 60 (-30)),(qA.mk 60 0)]:List qA).getD x4.toNat du) true)]:List qP))))] ?_
   exact q_vv [] 7 [5] [(5,vi (w64 (x4+1)))] (q_hl (qAh x1 l2 (w64 (x4+1)) (l5++([(qP.mk (([(qA.mk 60 30),(qA.mk 0 30),(qA.mk (-60) 30),(qA.mk (-60) 0),(qA.mk (-60) (-30)),(qA.mk 0 (-30)),(qA.mk 60 (-30)),(qA.mk 60 0)]:List qA).getD x4.toNat du) true)]:List qP)) (l5.length+1)) (ih (w64 (x4+1)) (l5++([(qP.mk (([(qA.mk 60 30),(qA.mk 0 30),(qA.mk (-60) 30),(qA.mk (-60) 0),(qA.mk (-60) (-30)),(qA.mk 0 (-30)),(qA.mk 60 (-30)),(qA.mk 60 0)]:List qA).getD x4.toNat du) true)]:List qP)) (l5.length+1) _ (wC rfl rfl) hm))
  ·refine q_ex 2 ?_;obtain rfl:=oi hm;exact q_l0
theorem qNp (E:Env 0):∀(n:Nat) (x1:Int) (l2:List Ring) (l2n:Nat) (res:(List Ring)),l2.length=l2n->qDM n x1 l2=some res->HL (kx E 45 0) (nd f22 244) (zN 0 qGH res) n (qAl x1 l2 l2n):=by
 intro n
 induction n with
 |zero=>
  intro x1 l2 l2n res hl0 hm;cases hm
 |succ n ih=>
  intro x1 l2 l2n res hl0 hm;subst hl0;refine qU (q_sq ?_);refine s_va 4 [(16,vb (decide (x1<2)))] (q_cq hm (λhm=>?_) (λhm=>?_))
  ·refine q_sk (q_sq ?_);refine q_bk 1 (s_vu [] 4 [16] [(4,vp 4 0)] [] [(4,bx 71 [ci (w64 (3000*x1)),.emp])] ?_);refine q_sq (s_va 5 [(5,vi 0)] ?_);refine q_fu [.ownB 4 1 5 95 3 (rf qX [])] [] [] [4] [(4,bx 71 [ci (w64 (3000*x1)),.own 5 0 3 0]),(5,ro 0 95 3 0 (rf qX []))] o0 ?_;obtain⟨o10,h11,hm⟩:=qC hm;refine zI (nd f22 62612) 2 (by kernel_rfl) FUEL (λo=>qGn x1 l2 o) o10 (q_hl (qAh x1 l2 0 ([]:List qP) 0) (qOq E x1 l2 FUEL 0 ([]:List qP) 0 o10 rfl h11)) ?_;obtain⟨g12,hm⟩:=qJ hm
   refine q_vu [qd 3 (dpr [.frz 5] (drw 6 0 (rf zC [(Ring.mk (w64 (3000*x1)) o10)]))) (And.intro (ke o10.length) (ke o10.length)),qd 3 dN (litP zC du 2 (λ_=>rfl) ([(Ring.mk (w64 (3000*x1)) o10)]:List Ring) 1 rfl),qd 4 (drw 3 1 (rf zC (l2++[(Ring.mk (w64 (3000*x1)) o10)]))) (apP zC du l2 ([(Ring.mk (w64 (3000*x1)) o10)]:List Ring) l2.length 1 2 32 (1<=1) (ke _) rfl rfl (λ_=>rfl) (wB g12))] 6 [4] [] [2,3,4,5] [(2,bx 25 [.own 3 1 2 (l2.length+1),.emp]),(3,ro 1 71 2 (l2.length+1) (rf zC (l2++[(Ring.mk (w64 (3000*x1)) o10)])))] (q_vv [] 7 [3] [(3,vi (w64 (x1+1)))] ?_)
   exact q_hl (qAl (w64 (x1+1)) (l2++[(Ring.mk (w64 (3000*x1)) o10)]) (l2.length+1)) (ih (w64 (x1+1)) (l2++[(Ring.mk (w64 (3000*x1)) o10)]) (l2.length+1) _ (wC rfl rfl) hm)
  ·refine q_ex 0 ?_;obtain rfl:=oi hm;exact q_l0
theorem qDG (r:Scan) (hm:NH=some r):CtX Tryz.prog globs 22 0 0 [] [] (qUE r) (qU2 r):=by
 unfold NH at hm;refine q_E f22 45 λE=>?_
 refine s_vn [] 0 ⟨[(0,vp 0 0)],[(0,bx 25 [.emp,.emp])]⟩ (s_vu [qd 8 (drw 1 0 (rf qF [(qA.mk 60 30),(qA.mk 0 30),(qA.mk (-60) 30),(qA.mk (-60) 0),(qA.mk (-60) (-30)),(qA.mk 0 (-30)),(qA.mk 60 (-30)),(qA.mk 60 0)])) (litP qF du 2 (λ_=>rfl) ([(qA.mk 60 30),(qA.mk 0 30),(qA.mk (-60) 30),(qA.mk (-60) 0),(qA.mk (-60) (-30)),(qA.mk 0 (-30)),(qA.mk 60 (-30)),(qA.mk 60 0)]:List qA) 8 rfl)] 1 [] [(1,vo 1 0 2 8)] [] [(1,ro 0 93 2 8 (rf qF [(qA.mk 60 30),(qA.mk 0 30),(qA.mk (-60) 30),(qA.mk (-60) 0),(qA.mk (-60) (-30)),(qA.mk 0 (-30)),(qA.mk 60 (-30)),(qA.mk 60 0)]))] ?_)
 refine s_vu [] 2 [] [(2,vp 2 0)] [] [(2,bx 25 [.emp,.emp])] (q_sq ?_);refine s_va 3 [(3,vi 0)] (q_fu [.ownB 2 0 3 71 2 (rf zC [])] [] [] [2] [(2,bx 25 [.own 3 0 2 0,.emp]),(3,ro 0 71 2 0 (rf zC []))] o0 ?_);obtain⟨o14,h15,hm⟩:=qC hm;refine zI (nd f22 244) 0 (by kernel_rfl) FUEL qGH o14 (q_hl (qAl 0 ([]:List Ring) 0) (qNp E FUEL 0 ([]:List Ring) 0 o14 rfl h15)) (s_vu [] 4 [2] [] [0,2] [(0,bx 25 [.own 3 0 2 o14.length,.emp])] ?_)
 refine q_fu [.ownB 0 1 4 87 7 (rf qN [])] [] [] [0] [(0,bx 25 [.own 3 0 2 o14.length,.own 4 0 7 0]),(4,ro 0 87 7 0 (rf qN []))] o0 (q_fu [.len 4 (([]:List qH).length)] [] [] [0,4] [(0,bx 25 [.own 3 0 2 o14.length,.own 4 0 7 (([]:List qH).length)]),(4,ro 0 87 7 (([]:List qH).length) (rf qN []))] (o1 (And.intro (show 0=([]:List qH).length from rfl) (show 0=([]:List qH).length from rfl))) ?_);obtain rfl:=oi hm;refine q_sw 3 0 (q_sw 4 1 ?_);exact q_rt q_rm
end Saw
end Go.SL
