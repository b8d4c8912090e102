import Derived.Test.YtigmogcdifllhaaGreatDoorEBase
import Derived.Test.YtigmogcdifllhaaGreatDoorEFa7
set_option linter.unusedVariables false
set_option linter.unusedSimpArgs false
namespace Go.SL
namespace Saw
open Go.Proofs Go.Proofs.Tryz
set_option maxHeartbeats 4000000
set_option maxRecDepth 100000
def qVL (r:Bool):V:=vb r
def qVk (r:Bool):List (Nat×(Nat×O)):=[]
theorem IZ (a1:qI) (a2:wZ) (r:Bool) (hm:ED a1 a2=some r):CtX Tryz.prog globs 17 0 0 [.agg [ci a1.Quarters,ci a1.Pattern.Frame.X.A,ci a1.Pattern.Frame.X.B,ci a1.Pattern.Frame.Y.A,ci a1.Pattern.Frame.Y.B,tl qK du a1.Pattern.Nodes,ci a1.Value],.agg [ci a2.Quarters,ci a2.Pattern.Frame.X.A,ci a2.Pattern.Frame.X.B,ci a2.Pattern.Frame.Y.A,ci a2.Pattern.Frame.Y.B,tl qK du a2.Pattern.Nodes,ci a2.Value]] [] (qVL r) (qVk r):=by
 unfold ED at hm;refine q_E f17 14 λE=>?_;refine s_vn [] 0 ⟨[(2,vp 0 0),(3,vp 1 0)],[(0,bx 60 (zF a1)),(1,bx 61 (qBQ a2))]⟩ ?_;obtain⟨v3,h4,hm⟩:=qC hm;refine s_vn [qc 8 [11,12] 2 (qTv (wZ.mk a1.Quarters a1.Pattern a1.Value) a2 v3 h4)] 2 ⟨[(4,vb v3)],[]⟩ ?_;obtain rfl:=oi hm;exact q_rt q_rm
end Saw
end Go.SL
