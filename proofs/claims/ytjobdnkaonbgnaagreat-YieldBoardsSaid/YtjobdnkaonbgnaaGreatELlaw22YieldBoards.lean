import Derived.Test.YtjobdnkaonbgnaaGreatEBase
import Derived.Test.YtjobdnkaonbgnaaGreatELlaw22Small
import Derived.Test.YtjobdnkaonbgnaaGreatELlaw22awake
import Derived.Test.YtjobdnkaonbgnaaGreatELs
import Derived.Test.YtjobdnkaonbgnaaGreatEFa12
import Derived.Test.YtjobdnkaonbgnaaGreatELlaw22plain
set_option linter.unusedVariables false
set_option linter.unusedSimpArgs false
namespace Go.SL
namespace Saw
open Go.Proofs
set_option maxHeartbeats 4000000
set_option maxRecDepth 100000
def qEd (r : Bool) : V := vb r
def qEi (r : Bool) : List (Nat × (Nat × O)) := []
def LI (x19 : Bool) : St :=
 ⟨[(2, vb x19)], []⟩
theorem qDH (a1 : Law22_Given) (r : Bool) (hm : PG a1 = some r) : CtX Tryz.prog globs 3 0 0 [.agg (qW a1)] [] (qEd r) (qEi r) := by
 unfold PG at hm
 refine q_E Tryz.f3 45 fun E => ?_
 refine q_sq ?_
 refine q_vn [] 0 ⟨[(1, vp 0 0)], [(0, bx 37 (qW a1))]⟩ ?_
 refine q_sq ?_
 refine q_sq ?_
 obtain ⟨v2, h3, hm⟩ := qD hm
 refine q_vu [qc 1 [7] 1 (qJi a1 v2 h3)] 1 [] [(9, vb (!v2))] [] [] ?_
 refine q_cn (!v2) (fun b4 => ?_) (fun b4 => ?_)
 ·replace hm := qC b4 hm
  refine q_sq ?_
  obtain ⟨v5, h6, hm⟩ := qD hm
  refine q_vn [qc 0 [] 1 (qC5 v5 h6)] 1 ⟨[(2, vb v5)], []⟩ ?_
  obtain rfl := Option.some.inj hm
  refine q_rt ?_
  exact q_rm
 ·replace hm := qB b4 hm
  refine q_sk ?_
  refine q_sq ?_
  obtain ⟨v7, h8, hm⟩ := qD hm
  refine q_vu [qc 1 [12] 1 (law22_boards_ok a1 v7 h8)] 1 [9] [(3, vo 1 0 9 v7.1.length), (4, vi v7.2)] [] [(1, ro 0 69 9 v7.1.length (rf qO v7.1))] ?_
  refine q_sq ?_
  obtain ⟨v9, h10, hm⟩ := qD hm
  refine q_vu [qc 13 [18, 20, 22, 24, 26, 29] 2 (qG8 a1.Solid a1.Defects a1.Products a1.Pattern a1.Saw a1.Rates.Fine v9 h10)] 2 [1] [(5, vo 2 0 9 v9.1.length), (6, vi v9.2)] [0] [(2, ro 0 81 9 v9.1.length (rf qS v9.1))] ?_
  refine q_jn (ι := Bool) (fun p => LI p) (fun p => JO p = some r) ?_ ?_
  ·rintro x19 hm
   show H _ (LI x19) _ _
   obtain rfl := Option.some.inj hm
   refine q_rt ?_
   exact q_rm
  ·obtain ⟨v11, h12, hm⟩ := qD hm
   obtain ⟨v13, h14, hm⟩ := qD hm
   rcases Bool.eq_false_or_eq_true v13 with b15 | b15
   ·replace hm := qC b15 hm
    rcases Bool.eq_false_or_eq_true (v7.2 == v9.2) with b16 | b16
    ·replace hm := qC b16 hm
     obtain ⟨v17, h18, hm⟩ := qD hm
     refine q_vn [qd 1 (dex (cen [] [] 3 0 (LQ v11) (XY v11) [33] [1])) (jI (K := (kx E 45 0)) (b := false) ⟨[(33, vo 1 0 9 v7.1.length)], [(1, ro 0 69 9 v7.1.length (rf qO v7.1))]⟩ (opAt (rg Tryz.f3 62) 1) [] [] 3 (o1 (Nat.le_refl v7.1.length)) rfl (AA v7.1 v11 h12) (.inr ⟨(by kernel_rfl), OS v11⟩) (by kernel_rfl)), qd 3 (dex (cen [] [] 4 0 (PX v13) (WO v13) [34, 35] [3, 2])) (jI (K := (kx E 45 0)) (b := false) ⟨[(34, vo 3 0 9 v11.length), (35, vo 2 0 9 v9.1.length)], [(3, ro 0 81 9 v11.length (rf qS v11)), (2, ro 0 81 9 v9.1.length (rf qS v9.1))]⟩ (opAt (rg Tryz.f3 62) 3) [] [] 4 (o1 (And.intro (Nat.le_refl v11.length) (Nat.le_refl v9.1.length))) rfl (ref22_Same_ok v11 v9.1 v13 h14) (.inr ⟨(by kernel_rfl), qAW v13⟩) (by kernel_rfl)), qf 4 b15, qf 9 b16, qk 10 [42] 4 ⟨[(42, vb true)], []⟩ (qC5 v17 h18)] 3 ⟨[(2, vb v17)], []⟩ ?_
     exact q_J (v17) hm
    ·replace hm := qB b16 hm
     refine q_vn [qd 1 (dex (cen [] [] 3 0 (LQ v11) (XY v11) [33] [1])) (jI (K := (kx E 45 0)) (b := false) ⟨[(33, vo 1 0 9 v7.1.length)], [(1, ro 0 69 9 v7.1.length (rf qO v7.1))]⟩ (opAt (rg Tryz.f3 62) 1) [] [] 3 (o1 (Nat.le_refl v7.1.length)) rfl (AA v7.1 v11 h12) (.inr ⟨(by kernel_rfl), OS v11⟩) (by kernel_rfl)), qd 3 (dex (cen [] [] 4 0 (PX v13) (WO v13) [34, 35] [3, 2])) (jI (K := (kx E 45 0)) (b := false) ⟨[(34, vo 3 0 9 v11.length), (35, vo 2 0 9 v9.1.length)], [(3, ro 0 81 9 v11.length (rf qS v11)), (2, ro 0 81 9 v9.1.length (rf qS v9.1))]⟩ (opAt (rg Tryz.f3 62) 3) [] [] 4 (o1 (And.intro (Nat.le_refl v11.length) (Nat.le_refl v9.1.length))) rfl (ref22_Same_ok v11 v9.1 v13 h14) (.inr ⟨(by kernel_rfl), qAW v13⟩) (by kernel_rfl)), qf 4 b15, qf 9 b16] 3 ⟨[(2, vb false)], []⟩ ?_
     exact q_J (false) hm
   ·replace hm := qB b15 hm
    refine q_vn [qd 1 (dex (cen [] [] 3 0 (LQ v11) (XY v11) [33] [1])) (jI (K := (kx E 45 0)) (b := false) ⟨[(33, vo 1 0 9 v7.1.length)], [(1, ro 0 69 9 v7.1.length (rf qO v7.1))]⟩ (opAt (rg Tryz.f3 62) 1) [] [] 3 (o1 (Nat.le_refl v7.1.length)) rfl (AA v7.1 v11 h12) (.inr ⟨(by kernel_rfl), OS v11⟩) (by kernel_rfl)), qd 3 (dex (cen [] [] 4 0 (PX v13) (WO v13) [34, 35] [3, 2])) (jI (K := (kx E 45 0)) (b := false) ⟨[(34, vo 3 0 9 v11.length), (35, vo 2 0 9 v9.1.length)], [(3, ro 0 81 9 v11.length (rf qS v11)), (2, ro 0 81 9 v9.1.length (rf qS v9.1))]⟩ (opAt (rg Tryz.f3 62) 3) [] [] 4 (o1 (And.intro (Nat.le_refl v11.length) (Nat.le_refl v9.1.length))) rfl (ref22_Same_ok v11 v9.1 v13 h14) (.inr ⟨(by kernel_rfl), qAW v13⟩) (by kernel_rfl)), qf 4 b15] 3 ⟨[(2, vb false)], []⟩ ?_
    exact q_J (false) hm
end Saw
end Go.SL
