import Derived.Test.YtidlfgiogdjkaaaGreatDoorEBase
import Derived.Test.YtidlfgiogdjkaaaGreatDoorELlaw24awake
import Derived.Test.YtidlfgiogdjkaaaGreatDoorEFa9
import Derived.Test.YtidlfgiogdjkaaaGreatDoorEFa11
import Derived.Test.YtidlfgiogdjkaaaGreatDoorELs
set_option linter.unusedVariables false
set_option linter.unusedSimpArgs false
namespace Go.SL
namespace Saw
open Go.Proofs
set_option maxHeartbeats 4000000
set_option maxRecDepth 100000
def qFF (r:Bool):V:=vb r
def qFO (r:Bool):List (Nat×(Nat×O)):=[]
def qDC (x18:Bool):St:=
 ⟨[(6,vb x18)],[]⟩
def qDE (a1:Pattern) (a2:List Product) (a3:Saw) (x7:Bool):St:=
 ⟨[(1,vc (tl qC default a2)),(3,vp 0 0),(5,vp 1 0),(15,vb x7)],[(0,bx 46 (QQ a1)),(1,bx 38 (zD a3))]⟩
theorem qFi (a1:Pattern) (a2:List Product) (a3:Saw) (r:Bool) (hm:TN a1 a2 a3=some r):CtX Tryz.prog globs 5 0 0 [.agg (QQ a1),.one (tl qC default a2),.agg (zD a3)] [] (qFF r) (qFO r):=by
 unfold TN at hm;refine q_E Tryz.f5 29 λE=>?_;refine s_vn [] 0 ⟨[(1,vc (tl qC default a2)),(3,vp 0 0),(5,vp 1 0)],[(0,bx 46 (QQ a1)),(1,bx 38 (zD a3))]⟩ ?_;refine q_sq ?_;refine q_jn (qDE a1 a2 a3) (λp=>VT a1 a2 a3 p=some r) ?_ ?_
 ·rintro x7 hm;refine q_cm hm (λb8 hm=>?_) (λb8 hm=>?_)
  ·obtain⟨v9,h10,hm⟩:=qA hm;refine s_vn [qc 0 [] 2 (qEx v9 h10)] 2 ⟨[(6,vb v9)],[]⟩ ?_;obtain rfl:=oi hm;refine q_rt ?_;exact q_rm
  ·refine q_sk ?_;refine q_jn (qDC) (λp=>ZP p=some r) ?_ ?_
   ·rintro x18 hm;obtain rfl:=oi hm;refine q_rt ?_;exact q_rm
   ·obtain⟨v11,h12,hm⟩:=qA hm;obtain⟨v13,h14,hm⟩:=qA hm;rcases bif_c hm with⟨b15,hm⟩|⟨b15,hm⟩
    ·obtain⟨v16,h17,hm⟩:=qA hm;refine q_dn [qc 3 [17,18,19] 2 (plan_Member_ok a1 a2 a3 v11 h12),qc 7 [21,22,23] 2 (qDi a1 a2 a3 v13 h14),qf 9 b15,qk 10 [26] 2 ⟨[(26,vb true)],[]⟩ (qEx v16 h17)] [0,0,0,7,0,0,0,127,255,511,1023,2047,4095] 2 ⟨[(6,vb v16)],[]⟩ ?_;exact q_J (v16) hm
    ·refine q_dn [qc 3 [17,18,19] 2 (plan_Member_ok a1 a2 a3 v11 h12),qc 7 [21,22,23] 2 (qDi a1 a2 a3 v13 h14),qf 9 b15] [0,0,0,7,0,0,0,127,255,511,1023,2047,4095] 2 ⟨[(6,vb false)],[]⟩ ?_;exact q_J (false) hm
 ·rcases bif_c hm with⟨b4,hm⟩|⟨b4,hm⟩
  ·refine q_vv [qf 4 b4] 2 [] [(15,vb true)] ?_;exact q_J (true) hm
  ·obtain⟨v5,h6,hm⟩:=qA hm;refine q_vv [qf 4 b4,qk 6 [11,12] 2 ⟨[(11,vb false),(12,vc (tl qC default a2))],[]⟩ (qPA a2 v5 h6)] 2 [] [(15,vb (!v5))] ?_;exact q_J (!v5) hm
end Saw
end Go.SL
