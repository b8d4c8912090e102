import Derived.Test.YthbamnkheinbgaaGreatDoorSBase
import Derived.Test.YthbamnkheinbgaaGreatDoorSLs
import Derived.Test.YthbamnkheinbgaaGreatDoorSFa4
import Derived.Test.YthbamnkheinbgaaGreatDoorSFa9
set_option linter.unusedVariables false
set_option linter.unusedSimpArgs false
namespace Go.SL
namespace Saw
open Go.Proofs Go.Proofs.Tryz
set_option maxHeartbeats 4000000
set_option maxRecDepth 100000
def qDV (r:Bool):V:=vb r
def qDW (r:Bool):List (Nat×(Nat×O)):=[]
def qCm (x19:Bool):St:=
 ⟨[(6,vb x19)],[]⟩
theorem qDI (a1:Scan) (a2:Int) (a3:Int) (r:Bool) (hm:WQ a1 a2 a3=some r):CtX Tryz.prog globs 4 0 0 [.agg (qZ a1),.one (ci a2),.one (ci a3)] [] (qDV r) (qDW r):=by
 unfold WQ at hm;refine q_E f4 40 λE=>?_;refine s_vn [] 0 ⟨[(1,vi a2),(2,vi a3),(3,vp 0 0)],[(0,bx 25 (qZ a1))]⟩ (q_sq ?_);obtain⟨v4,h5,hm⟩:=qD hm;refine s_vv [qc 1 [11] 1 (qNE a1 v4 h5)] 1 [] [(13,vb (!v4))] (q_cq hm (λhm=>?_) (λhm=>?_))
 ·obtain⟨v7,h8,hm⟩:=qD hm;refine s_vn [qc 0 [] 1 (qBV v7 h8)] 1 ⟨[(6,vb v7)],[]⟩ ?_;obtain rfl:=oi hm;exact q_rt q_rm
 ·refine q_sk ?_;obtain⟨v9,h10,hm⟩:=qD hm;refine s_vu [qc 3 [16,17,18] 1 (qDv a1 a2 a3 v9 h10)] 1 [13] [(7,vo 1 0 3 v9.1.length),(8,vi v9.2)] [] [(1,ro 0 50 3 v9.1.length (rf qQ v9.1))] ?_;obtain⟨v11,h12,hm⟩:=qD hm;refine s_vu [qc 3 [23,24,25] 2 (qJi a1 a2 a3 v11 h12)] 2 [1,2,3] [(9,vo 2 0 3 v11.1.length),(10,vi v11.2)] [0] [(2,ro 0 50 3 v11.1.length (rf qQ v11.1))] (q_jn (qCm) (λp=>QJ p=some r) ?_ ?_)
  ·rintro x19 hm;obtain rfl:=oi hm;exact q_rt q_rm
  ·obtain⟨v13,h14,hm⟩:=qD hm;rcases bif_c hm with⟨b15,hm⟩|⟨b15,hm⟩
   ·rcases bif_c hm with⟨b16,hm⟩|⟨b16,hm⟩
    ·obtain⟨v17,h18,hm⟩:=qD hm;exact q_vn [qd 2 (dex (cen [] [] 3 0 (KC v13) (QU v13) [29,30] [1,2])) (zJ (K:=(kx E 40 0)) (b:=false) ⟨[(29,vo 1 0 3 v9.1.length),(30,vo 2 0 3 v11.1.length)],[(1,ro 0 50 3 v9.1.length (rf qQ v9.1)),(2,ro 0 50 3 v11.1.length (rf qQ v11.1))]⟩ (opAt (rg f4 62) 2) [] [] 3 (o1 (And.intro (ki v9.1.length) (ki v11.1.length))) rfl (AY v9.1 v11.1 v13 h14) (.inr ⟨(by kernel_rfl),OW v13⟩) (by kernel_rfl)),qf 3 b15,qf 8 b16,qk 9 [37] 3 ⟨[(37,vb true)],[]⟩ (qBV v17 h18)] 3 ⟨[(6,vb v17)],[]⟩ (q_J (v17) hm)
    ·exact q_vn [qd 2 (dex (cen [] [] 3 0 (KC v13) (QU v13) [29,30] [1,2])) (zJ (K:=(kx E 40 0)) (b:=false) ⟨[(29,vo 1 0 3 v9.1.length),(30,vo 2 0 3 v11.1.length)],[(1,ro 0 50 3 v9.1.length (rf qQ v9.1)),(2,ro 0 50 3 v11.1.length (rf qQ v11.1))]⟩ (opAt (rg f4 62) 2) [] [] 3 (o1 (And.intro (ki v9.1.length) (ki v11.1.length))) rfl (AY v9.1 v11.1 v13 h14) (.inr ⟨(by kernel_rfl),OW v13⟩) (by kernel_rfl)),qf 3 b15,qf 8 b16] 3 ⟨[(6,vb false)],[]⟩ (q_J (false) hm)
   ·exact q_vn [qd 2 (dex (cen [] [] 3 0 (KC v13) (QU v13) [29,30] [1,2])) (zJ (K:=(kx E 40 0)) (b:=false) ⟨[(29,vo 1 0 3 v9.1.length),(30,vo 2 0 3 v11.1.length)],[(1,ro 0 50 3 v9.1.length (rf qQ v9.1)),(2,ro 0 50 3 v11.1.length (rf qQ v11.1))]⟩ (opAt (rg f4 62) 2) [] [] 3 (o1 (And.intro (ki v9.1.length) (ki v11.1.length))) rfl (AY v9.1 v11.1 v13 h14) (.inr ⟨(by kernel_rfl),OW v13⟩) (by kernel_rfl)),qf 3 b15] 3 ⟨[(6,vb false)],[]⟩ (q_J (false) hm)
end Saw
end Go.SL
