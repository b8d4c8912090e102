import Derived.Test.YtpommeghjpbepaaEBase
import Derived.Test.YtpommeghjpbepaaELlaw22Block
import Derived.Test.YtpommeghjpbepaaELs
set_option linter.unusedVariables false
set_option linter.unusedSimpArgs false
namespace Go.SL
namespace Saw
open Go.Proofs Go.Proofs.Try
set_option maxHeartbeats 4000000
set_option maxRecDepth 100000
def qHM (r:qQ):V:=va [.own 0 0 3 r.Solid.length,.own 1 0 7 r.Defects.length,.own 2 0 7 r.Products.length,ci r.Pattern.Frame.X.A,ci r.Pattern.Frame.X.B,ci r.Pattern.Frame.Y.A,ci r.Pattern.Frame.Y.B,.own 3 0 2 r.Pattern.Nodes.length,ci r.Saw.Kerf,ci r.Saw.Trim,ci r.Saw.Pitch,ci r.Saw.Step,ci r.Rates.Chip,ci r.Rates.Dust,ci r.Rates.Fine]
def qH3 (r:qQ):List (Nat×(Nat×O)):=[(0,ro 0 93 3 r.Solid.length (rf qF r.Solid)),(1,ro 0 122 7 r.Defects.length (rf qE r.Defects)),(2,ro 0 114 7 r.Products.length (rf qC r.Products)),(3,ro 0 117 2 r.Pattern.Nodes.length (rf jS r.Pattern.Nodes))]
theorem YV (r:qQ) (hm:DR=some r):CtX Try.prog globs 23 0 0 [] [] (qHM r) (qH3 r):=by
 unfold DR at hm;refine q_E f23 16 λE=>?_;refine s_vn [] 0 ⟨[(0,vp 0 0)],[(0,bx 37 [.emp,.emp,.emp,ci 0,ci 0,ci 0,ci 0,.emp,ci 0,ci 0,ci 0,ci 0,ci 0,ci 0,ci 0])]⟩ (s_vu [qd 6 (drw 1 0 (rf jS [(Node.mk 3 42),(Node.mk 1 0),(Node.mk 0 0)])) (litP jS du 2 (λ_=>rfl) ([(Node.mk 3 42),(Node.mk 1 0),(Node.mk 0 0)]:List Node) 3 rfl)] 1 [] [(1,vp 2 0)] [] [(1,ro 0 117 2 3 (rf jS [(Node.mk 3 42),(Node.mk 1 0),(Node.mk 0 0)])),(2,bx 31 [ci (-50),ci 55,ci 0,ci 90,.own 1 0 2 3])] ?_);obtain⟨v1,h2,hm⟩:=qH hm;obtain⟨v3,h4,hm⟩:=qH hm
 refine s_du [qk 1 [10] 3 ⟨[(10,va [ci (-100),ci 100])],[]⟩ (qHg 3000 (-10) 20 (Span.mk (-100) 100) v1 h2),qc 2 [] 4 (qHy v3 h4)] [0,1,3,0,0,31,63] 3 [1] [] [0,2] [(0,bx 37 [.own 3 0 3 v1.length,.emp,.own 4 0 7 v3.length,ci (-50),ci 55,ci 0,ci 90,.own 1 0 2 3,ci 4,ci 5,ci 1,ci 500,ci 0,ci 0,ci 0]),(3,ro 0 93 3 v1.length (rf qF v1)),(4,ro 0 114 7 v3.length (rf qC v3))] (q_fu [.ownB 0 1 5 122 7 (rf qE [])] [] [] [0] [(0,bx 37 [.own 3 0 3 v1.length,.own 5 0 7 0,.own 4 0 7 v3.length,ci (-50),ci 55,ci 0,ci 90,.own 1 0 2 3,ci 4,ci 5,ci 1,ci 500,ci 0,ci 0,ci 0]),(5,ro 0 122 7 0 (rf qE []))] o0 ?_)
 refine q_fu [.len 5 (([]:List qJ).length)] [] [] [0,5] [(0,bx 37 [.own 3 0 3 v1.length,.own 5 0 7 (([]:List qJ).length),.own 4 0 7 v3.length,ci (-50),ci 55,ci 0,ci 90,.own 1 0 2 3,ci 4,ci 5,ci 1,ci 500,ci 0,ci 0,ci 0]),(5,ro 0 122 7 (([]:List qJ).length) (rf qE []))] (o1 (And.intro (show 0=([]:List qJ).length from rfl) (show 0=([]:List qJ).length from rfl))) ?_
 refine q_fu [.len 1 (([(Node.mk 3 42),(Node.mk 1 0),(Node.mk 0 0)]:List Node).length)] [] [] [0,1] [(0,bx 37 [.own 3 0 3 v1.length,.own 5 0 7 (([]:List qJ).length),.own 4 0 7 v3.length,ci (-50),ci 55,ci 0,ci 90,.own 1 0 2 (([(Node.mk 3 42),(Node.mk 1 0),(Node.mk 0 0)]:List Node).length),ci 4,ci 5,ci 1,ci 500,ci 0,ci 0,ci 0]),(1,ro 0 117 2 (([(Node.mk 3 42),(Node.mk 1 0),(Node.mk 0 0)]:List Node).length) (rf jS [(Node.mk 3 42),(Node.mk 1 0),(Node.mk 0 0)]))] (o1 (And.intro (show 3=([(Node.mk 3 42),(Node.mk 1 0),(Node.mk 0 0)]:List Node).length from rfl) (show 3=([(Node.mk 3 42),(Node.mk 1 0),(Node.mk 0 0)]:List Node).length from rfl))) ?_
 obtain rfl:=oi hm;refine q_sw 3 0 (q_sw 5 1 ?_);refine q_sw 4 2 (q_sw 5 3 ?_);exact q_rt q_rm
end Saw
end Go.SL
