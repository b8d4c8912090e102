import Derived.Test.YtpommeghjpbepaaEBase
import Derived.Test.YtpommeghjpbepaaELlaw22Small
import Derived.Test.YtpommeghjpbepaaELlaw22Work
set_option linter.unusedVariables false
set_option linter.unusedSimpArgs false
namespace Go.SL
namespace Saw
open Go.Proofs Go.Proofs.Try
set_option maxHeartbeats 4000000
set_option maxRecDepth 100000
def qI8 (r:Bool):V:=vb r
def qIZ (r:Bool):List (Nat×(Nat×O)):=[]
def qE9 (x7:Bool):St:=
 ⟨[(2,vb x7)],[]⟩
theorem qHY (a1:qQ) (r:Bool) (hm:LC a1=some r):CtX Try.prog globs 6 0 0 [.agg (qZ a1)] [] (qI8 r) (qIZ r):=by
 unfold LC at hm;refine q_E f6 10 λE=>?_;refine s_vn [] 0 ⟨[(1,vp 0 0)],[(0,bx 37 (qZ a1))]⟩ (q_jn (qE9) (λp=>NV p=some r) ?_ ?_)
 ·rintro x7 hm;obtain rfl:=oi hm;exact q_rt q_rm
 ·obtain⟨v2,h3,hm⟩:=qH hm;rcases bif_c hm with⟨b4,hm⟩|⟨b4,hm⟩
  ·obtain⟨v5,h6,hm⟩:=qH hm;exact q_vn [qc 1 [3] 1 (qBq a1 v2 h3),qf 2 b4,qk 4 [5,6] 1 ⟨[(5,vb true),(6,va (qZ a1))],[]⟩ (qCL a1 v5 h6)] 1 ⟨[(2,vb (decide (v5<=20000)))],[]⟩ (q_J (decide (v5<=20000)) hm)
  ·exact q_vn [qc 1 [3] 1 (qBq a1 v2 h3),qf 2 b4] 1 ⟨[(2,vb false)],[]⟩ (q_J (false) hm)
end Saw
end Go.SL
