import Derived.Test.YtpommeghjpbepaaEBase
set_option linter.unusedVariables false
set_option linter.unusedSimpArgs false
namespace Go.SL
namespace Saw
open Go.Proofs Go.Proofs.Try
set_option maxHeartbeats 4000000
set_option maxRecDepth 100000
def jB (r:(List zH)):V:=vo 0 0 9 r.length
def wM (r:(List zH)):List (Nat×(Nat×O)):=[(0,ro 0 115 9 r.length (rf zK r))]
theorem jO (r:(List zH)):US (wM r):=by
 intro i k o h;unfold wM at h;rw[look_cons] at h;split at h
 ·cases h;exact λ_ _=>rfl
 ·cases h
def LX (a1:List qI) (l2:List zH) (l2n:Nat) (x3:Int):St:=
 ⟨[(0,vc (tl qP du a1)),(3,vo 0 0 9 l2n),(4,vi x3)],[(0,ro 0 115 9 l2n (rf zK l2))]⟩
def CD (l7:List zH):St:=
 ⟨[(3,vo 0 0 9 l7.length)],[(0,ro 0 115 9 l7.length (rf zK l7))]⟩
theorem qEj (E:Env 0) (a1:List qI):∀(n:Nat) (l2:List zH) (l2n:Nat) (x3:Int) (res:(List zH)),l2.length=l2n->KL a1 n l2 x3=some res->HL (kx E 19 0) (nd f19 116) (jL 0 CD res) n (LX a1 l2 l2n x3):=by
 intro n
 induction n with
 |zero=>
  intro l2 l2n x3 res hl0 hm;cases hm
 |succ n ih=>
  intro l2 l2n x3 res hl0 hm;subst hl0;refine zF (q_sq ?_);refine s_va 1 [(8,vb (decide (x3<(a1.length:Int))))] (q_cq hm (λhm=>?_) (λhm=>?_))
  ·refine q_sk (q_sq ?_);refine q_bk 1 ?_;obtain⟨g5,hm⟩:=qT hm;obtain⟨g6,hm⟩:=qT hm
   refine q_vu [qi 3 g5,qd 5 (drw 1 0 (rf zK [(zH.mk ((a1.getD x3.toNat du).Leaf) ((a1.getD x3.toNat du).Product) ((a1.getD x3.toNat du).Box) ((a1.getD x3.toNat du).Worth))])) (litP zK du 9 (λ_=>rfl) ([(zH.mk ((a1.getD x3.toNat du).Leaf) ((a1.getD x3.toNat du).Product) ((a1.getD x3.toNat du).Box) ((a1.getD x3.toNat du).Worth))]:List zH) 1 rfl),qd 6 (drw 0 1 (rf zK (l2++[(zH.mk ((a1.getD x3.toNat du).Leaf) ((a1.getD x3.toNat du).Product) ((a1.getD x3.toNat du).Box) ((a1.getD x3.toNat du).Worth))]))) (apP zK du l2 ([(zH.mk ((a1.getD x3.toNat du).Leaf) ((a1.getD x3.toNat du).Product) ((a1.getD x3.toNat du).Box) ((a1.getD x3.toNat du).Worth))]:List zH) l2.length 1 9 72 (1<=1) (kf _) rfl rfl (λ_=>rfl) (jQ g6))] 1 [3,8] [(3,vo 0 1 9 (l2.length+1))] [0] [(0,ro 1 115 9 (l2.length+1) (rf zK (l2++[(zH.mk ((a1.getD x3.toNat du).Leaf) ((a1.getD x3.toNat du).Product) ((a1.getD x3.toNat du).Box) ((a1.getD x3.toNat du).Worth))])))] ?_
   exact q_vv [] 2 [4] [(4,vi (w64 (x3+1)))] (q_hl (LX a1 (l2++[(zH.mk ((a1.getD x3.toNat du).Leaf) ((a1.getD x3.toNat du).Product) ((a1.getD x3.toNat du).Box) ((a1.getD x3.toNat du).Worth))]) (l2.length+1) (w64 (x3+1))) (ih (l2++[(zH.mk ((a1.getD x3.toNat du).Leaf) ((a1.getD x3.toNat du).Product) ((a1.getD x3.toNat du).Box) ((a1.getD x3.toNat du).Worth))]) (l2.length+1) (w64 (x3+1)) _ (wR rfl rfl) hm))
  ·refine q_ex 0 ?_;obtain rfl:=oi hm;exact q_l0
theorem jA (a1:List qI) (r:(List zH)) (hm:GV a1=some r):CtX Try.prog globs 19 0 0 [.one (tl qP du a1)] [] (jB r) (wM r):=by
 unfold GV at hm;refine q_E f19 19 λE=>?_;refine s_vn [] 0 ⟨[(0,vc (tl qP du a1))],[]⟩ (s_va 0 [(3,vc (.emp))] ?_);refine q_sq (s_va 0 [(4,vi 0)] ?_);refine q_fo 3 0 115 9 zK ?_;obtain⟨o8,h9,hm⟩:=qH hm;refine jC (nd f19 116) 0 (by kernel_rfl) FUEL CD o8 (q_hl (LX a1 ([]:List zH) 0 0) (qEj E a1 FUEL ([]:List zH) 0 0 o8 rfl h9)) (s_vv [] 1 [3] [(2,vo 0 0 9 o8.length)] ?_);obtain rfl:=oi hm;exact q_rt q_rm
end Saw
end Go.SL
