import Derived.Test.YtpommeghjpbepaaEBase
set_option linter.unusedVariables false
set_option linter.unusedSimpArgs false
namespace Go.SL
namespace Saw
open Go.Proofs Go.Proofs.Try
set_option maxHeartbeats 4000000
set_option maxRecDepth 100000
def qIX (r:(List qG)):V:=vo 0 0 3 r.length
def qJg (r:(List qG)):List (Nat×(Nat×O)):=[(0,ro 0 93 3 r.length (rf qF r))]
def LZ (a1:Int) (a2:Int) (a3:Int) (a4:Span) (x5:Int) (l6:List Span) (l6n:Nat):St:=
 ⟨[(2,vi a3),(7,vp 0 0),(9,vp 1 0),(10,vi x5)],[(0,bx 26 (qO a4)),(1,bx 93 [ci a1,ci a2,.own 2 0 2 l6n]),(2,ro 0 26 2 l6n (rf qO l6))]⟩
def OX (a1:Int) (a2:Int) (l9:List Span):St:=
 ⟨[(9,vp 1 0)],[(1,bx 93 [ci a1,ci a2,.own 2 0 2 l9.length]),(2,ro 0 26 2 l9.length (rf qO l9))]⟩
theorem qEA (E:Env 0) (a1:Int) (a2:Int) (a3:Int) (a4:Span):∀(n:Nat) (x5:Int) (l6:List Span) (l6n:Nat) (res:(List Span)),l6.length=l6n->HY a3 a4 n x5 l6=some res->HL (kx E 30 0) (nd f42 116) (jL 0 (λo=>OX a1 a2 o) res) n (LZ a1 a2 a3 a4 x5 l6 l6n):=by
 intro n
 induction n with
 |zero=>
  intro x5 l6 l6n res hl0 hm;cases hm
 |succ n ih=>
  intro x5 l6 l6n res hl0 hm;subst hl0;refine zF (q_sq ?_);refine s_va 3 [(17,vb (decide (x5<a3)))] (q_cq hm (λhm=>?_) (λhm=>?_))
  ·refine q_sk (q_sq ?_);refine q_bk 1 ?_;obtain⟨g8,hm⟩:=qT hm;refine q_vu [qd 4 (drw 3 0 (rf qO [a4])) (litP qO du 2 (λ_=>rfl) ([a4]:List Span) 1 rfl),qd 5 (drw 2 1 (rf qO (l6++[a4]))) (apP qO du l6 ([a4]:List Span) l6.length 1 2 16 (1<=1) (kf _) rfl rfl (λ_=>rfl) (jQ g8))] 3 [17] [] [1,2] [(1,bx 93 [ci a1,ci a2,.own 2 1 2 (l6.length+1)]),(2,ro 1 26 2 (l6.length+1) (rf qO (l6++[a4])))] (q_vv [] 4 [10] [(10,vi (w64 (x5+1)))] ?_);exact q_hl (LZ a1 a2 a3 a4 (w64 (x5+1)) (l6++[a4]) (l6.length+1)) (ih (w64 (x5+1)) (l6++[a4]) (l6.length+1) _ (wR rfl rfl) hm)
  ·refine q_ex 0 ?_;obtain rfl:=oi hm;exact q_l0
theorem qHg (a1:Int) (a2:Int) (a3:Int) (a4:Span) (r:(List qG)) (hm:qBc a1 a2 a3 a4=some r):CtX Try.prog globs 42 0 0 [.one (ci a1),.one (ci a2),.one (ci a3),.agg (qO a4)] [] (qIX r) (qJg r):=by
 unfold qBc at hm;refine q_E f42 30 λE=>?_;refine s_vn [] 0 ⟨[(0,vi a1),(1,vi a2),(2,vi a3),(7,vp 0 0)],[(0,bx 26 (qO a4))]⟩ (s_vu [] 1 [0,1] [(9,vp 1 0)] [] [(1,bx 93 [ci a1,ci a2,.emp])] ?_);refine q_sq (s_va 2 [(10,vi 0)] ?_);refine q_fu [.ownB 1 2 2 26 2 (rf qO [])] [] [] [1] [(1,bx 93 [ci a1,ci a2,.own 2 0 2 0]),(2,ro 0 26 2 0 (rf qO []))] o0 ?_;obtain⟨o10,h11,hm⟩:=qH hm
 refine jC (nd f42 116) 0 (by kernel_rfl) FUEL (λo=>OX a1 a2 o) o10 (q_hl (LZ a1 a2 a3 a4 0 ([]:List Span) 0) (qEA E a1 a2 a3 a4 FUEL 0 ([]:List Span) 0 o10 rfl h11)) (s_vn [qd 1 (dpr [.frz 2] (drw 3 0 (rf qF [(qG.mk a1 (qR.mk a2 o10))]))) (And.intro (kf o10.length) (kf o10.length)),qd 1 dN (litP qF du 3 (λ_=>rfl) ([(qG.mk a1 (qR.mk a2 o10))]:List qG) 1 rfl)] 3 ⟨[(8,vo 3 0 3 1)],[(3,ro 0 93 3 1 (rf qF [(qG.mk a1 (qR.mk a2 o10))]))]⟩ ?_)
 refine q_fn [.len 3 (([(qG.mk a1 (qR.mk a2 o10))]:List qG).length)] ⟨[(8,vo 3 0 3 (([(qG.mk a1 (qR.mk a2 o10))]:List qG).length))],[(3,ro 0 93 3 (([(qG.mk a1 (qR.mk a2 o10))]:List qG).length) (rf qF [(qG.mk a1 (qR.mk a2 o10))]))]⟩ (o1 (And.intro (show 1=([(qG.mk a1 (qR.mk a2 o10))]:List qG).length from rfl) (show 1=([(qG.mk a1 (qR.mk a2 o10))]:List qG).length from rfl))) ?_;obtain rfl:=oi hm;exact q_sw 3 0 (q_rt q_rm)
end Saw
end Go.SL
