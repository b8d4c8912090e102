import Derived.Test.YtjobdnkaonbgnaaGreatEBase
import Derived.Test.YtjobdnkaonbgnaaGreatELlaw22Small
import Derived.Test.YtjobdnkaonbgnaaGreatELlaw22awake
import Derived.Test.YtjobdnkaonbgnaaGreatELs
import Derived.Test.YtjobdnkaonbgnaaGreatEFa12
set_option linter.unusedVariables false
set_option linter.unusedSimpArgs false
namespace Go.SL
namespace Saw
open Go.Proofs
set_option maxHeartbeats 4000000
set_option maxRecDepth 100000
def qHA (r : Bool) : V := vb r
def qIb (r : Bool) : List (Nat × (Nat × O)) := []
def ON (x15 : Bool) : St :=
 ⟨[(2, vb x15)], []⟩
theorem qGO (a1 : Law22_Given) (r : Bool) (hm : MH a1 = some r) : CtX Tryz.prog globs 4 0 0 [.agg (qX a1)] [] (qHA r) (qIb r) := by
 unfold MH at hm
 refine q_E Tryz.f4 43 fun E => ?_
 refine s_vn [] 0 ⟨[(1, vp 0 0)], [(0, bx 37 (qX a1))]⟩ ?_
 refine q_sq ?_
 obtain ⟨v2, h3, hm⟩ := qD hm
 refine s_vu [qc 1 [7] 1 (qJ5 a1 v2 h3)] 1 [] [(9, vb (!v2))] [] [] ?_
 refine q_cn (!v2) (fun b4 => ?_) (fun b4 => ?_)
 ·replace hm := qB b4 hm
  obtain ⟨v5, h6, hm⟩ := qD hm
  refine s_vn [qc 0 [] 1 (qDd v5 h6)] 1 ⟨[(2, vb v5)], []⟩ ?_
  obtain rfl := oi hm
  refine q_rt ?_
  exact q_rm
 ·replace hm := qC b4 hm
  refine q_sk ?_
  obtain ⟨v7, h8, hm⟩ := qD hm
  refine s_vu [qc 1 [12] 1 (law22_of_ok a1 v7 h8)] 1 [9] [(3, vp 1 0), (4, vi v7.2)] [] [(1, bx 50 (wG v7.1))] ?_
  obtain ⟨v9, h10, hm⟩ := qD hm
  refine s_vu [qc 12 [18, 20, 22, 24, 26, 28] 2 (qNP a1.Solid a1.Defects a1.Products a1.Pattern a1.Saw a1.Rates v9 h10)] 2 [1] [(5, vp 2 0), (6, vi v9.2)] [0] [(2, bx 50 (wG v9.1))] ?_
  refine q_jn (ι := Bool) (fun p => ON p) (fun p => TN p = some r) ?_ ?_
  ·rintro x15 hm
   show H _ (ON x15) _ _
   obtain rfl := oi hm
   refine q_rt ?_
   exact q_rm
  ·rcases Bool.eq_false_or_eq_true ((v7.1.Log == v9.1.Log) && ((v7.1.Boards == v9.1.Boards) && ((v7.1.Chips == v9.1.Chips) && ((v7.1.Dust == v9.1.Dust) && ((v7.1.Value == v9.1.Value) && true))))) with b11 | b11
   ·replace hm := qB b11 hm
    rcases Bool.eq_false_or_eq_true (v7.2 == v9.2) with b12 | b12
    ·replace hm := qB b12 hm
     obtain ⟨v13, h14, hm⟩ := qD hm
     refine q_vn [qf 3 b11, qf 8 b12, qk 9 [40] 3 ⟨[(40, vb true)], []⟩ (qDd v13 h14)] 3 ⟨[(2, vb v13)], []⟩ ?_
     exact q_J (v13) hm
    ·replace hm := qC b12 hm
     refine q_vn [qf 3 b11, qf 8 b12] 3 ⟨[(2, vb false)], []⟩ ?_
     exact q_J (false) hm
   ·replace hm := qC b11 hm
    refine q_vn [qf 3 b11] 3 ⟨[(2, vb false)], []⟩ ?_
    exact q_J (false) hm
end Saw
end Go.SL
