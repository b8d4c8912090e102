import Derived.Test.YtgpgnlllieekbaaGreatDoorEBase
import Derived.Test.YtgpgnlllieekbaaGreatDoorELlaw23Small
import Derived.Test.YtgpgnlllieekbaaGreatDoorELlaw23awake
import Derived.Test.YtgpgnlllieekbaaGreatDoorELs
import Derived.Test.YtgpgnlllieekbaaGreatDoorEFa12
set_option linter.unusedVariables false
set_option linter.unusedSimpArgs false
namespace Go.SL
namespace Saw
open Go.Proofs
set_option maxHeartbeats 4000000
set_option maxRecDepth 100000
def qFF (r : Bool) : V := vb r
def qFz (r : Bool) : List (Nat × (Nat × O)) := []
def LY (x18 : Bool) : St :=
 ⟨[(2, vb x18)], []⟩
theorem qE0 (a1 : qP) (r : Bool) (hm : UJ a1 = some r) : CtX Tryz.prog globs 4 0 0 [.agg (zO a1)] [] (qFF r) (qFz r) := by
 unfold UJ at hm
 refine q_E Tryz.f4 52 fun E => ?_
 refine q_sq ?_
 refine q_vn [] 0 ⟨[(1, vp 0 0)], [(0, bx 34 (zO a1))]⟩ ?_
 refine q_sq ?_
 refine q_sq ?_
 obtain ⟨v2, h3, hm⟩ := qD hm
 refine q_vu [qc 1 [9] 1 (qJm a1 v2 h3)] 1 [] [(11, vb (!v2))] [] [] ?_
 refine q_cn (!v2) (fun b4 => ?_) (fun b4 => ?_)
 ·replace hm := qB b4 hm
  refine q_sq ?_
  obtain ⟨v5, h6, hm⟩ := qD hm
  refine q_vn [qc 0 [] 1 (qDu v5 h6)] 1 ⟨[(2, vb v5)], []⟩ ?_
  obtain rfl := Option.some.inj hm
  refine q_rt ?_
  exact q_rm
 ·replace hm := qA b4 hm
  refine q_sk ?_
  refine q_sq ?_
  obtain ⟨v7, h8, hm⟩ := qD hm
  refine q_vu [qc 1 [14] 1 (IQ a1 v7 h8)] 1 [11] [(3, vo 1 0 2 v7.1.length), (4, vi v7.2.1), (5, vi v7.2.2)] [] [(1, ro 0 64 2 v7.1.length (rf e_Node v7.1))] ?_
  refine q_sq ?_
  obtain ⟨v9, h10, hm⟩ := qD hm
  refine q_vu [qc 12 [21, 23, 25, 27, 29, 31] 2 (qK8 a1.Solid a1.Defects a1.Products a1.Strip a1.Saw a1.Rates v9 h10)] 2 [1] [(6, vo 2 0 2 v9.1.length), (7, vi v9.2.1), (8, vi v9.2.2)] [0] [(2, ro 0 64 2 v9.1.length (rf e_Node v9.1))] ?_
  refine q_jn (ι := Bool) (fun p => LY p) (fun p => QB p = some r) ?_ ?_
  ·rintro x18 hm
   show H _ (LY x18) _ _
   obtain rfl := Option.some.inj hm
   refine q_rt ?_
   exact q_rm
  ·obtain ⟨v11, h12, hm⟩ := qD hm
   rcases Bool.eq_false_or_eq_true v11 with b13 | b13
   ·replace hm := qB b13 hm
    rcases Bool.eq_false_or_eq_true (v7.2.1 == v9.2.1) with b14 | b14
    ·replace hm := qB b14 hm
     rcases Bool.eq_false_or_eq_true (v7.2.2 == v9.2.2) with b15 | b15
     ·replace hm := qB b15 hm
      obtain ⟨v16, h17, hm⟩ := qD hm
      refine q_vn [qd 2 (dex (cen [] [] 3 0 (yC v11) (wP v11) [36, 37] [1, 2])) (yJ (K := (kx E 52 0)) (b := false) ⟨[(36, vo 1 0 2 v7.1.length), (37, vo 2 0 2 v9.1.length)], [(1, ro 0 64 2 v7.1.length (rf e_Node v7.1)), (2, ro 0 64 2 v9.1.length (rf e_Node v9.1))]⟩ (opAt (rg Tryz.f4 62) 2) [] [] 3 (o1 (And.intro (Nat.le_refl v7.1.length) (Nat.le_refl v9.1.length))) rfl (ref23_SameNodes_ok v7.1 v9.1 v11 h12) (.inr ⟨(by kernel_rfl), KM v11⟩) (by kernel_rfl)), qf 3 b13, qf 8 b14, qf 13 b15, qk 14 [49] 3 ⟨[(49, vb true)], []⟩ (qDu v16 h17)] 3 ⟨[(2, vb v16)], []⟩ ?_
      exact q_J (v16) hm
     ·replace hm := qA b15 hm
      refine q_vn [qd 2 (dex (cen [] [] 3 0 (yC v11) (wP v11) [36, 37] [1, 2])) (yJ (K := (kx E 52 0)) (b := false) ⟨[(36, vo 1 0 2 v7.1.length), (37, vo 2 0 2 v9.1.length)], [(1, ro 0 64 2 v7.1.length (rf e_Node v7.1)), (2, ro 0 64 2 v9.1.length (rf e_Node v9.1))]⟩ (opAt (rg Tryz.f4 62) 2) [] [] 3 (o1 (And.intro (Nat.le_refl v7.1.length) (Nat.le_refl v9.1.length))) rfl (ref23_SameNodes_ok v7.1 v9.1 v11 h12) (.inr ⟨(by kernel_rfl), KM v11⟩) (by kernel_rfl)), qf 3 b13, qf 8 b14, qf 13 b15] 3 ⟨[(2, vb false)], []⟩ ?_
      exact q_J (false) hm
    ·replace hm := qA b14 hm
     refine q_vn [qd 2 (dex (cen [] [] 3 0 (yC v11) (wP v11) [36, 37] [1, 2])) (yJ (K := (kx E 52 0)) (b := false) ⟨[(36, vo 1 0 2 v7.1.length), (37, vo 2 0 2 v9.1.length)], [(1, ro 0 64 2 v7.1.length (rf e_Node v7.1)), (2, ro 0 64 2 v9.1.length (rf e_Node v9.1))]⟩ (opAt (rg Tryz.f4 62) 2) [] [] 3 (o1 (And.intro (Nat.le_refl v7.1.length) (Nat.le_refl v9.1.length))) rfl (ref23_SameNodes_ok v7.1 v9.1 v11 h12) (.inr ⟨(by kernel_rfl), KM v11⟩) (by kernel_rfl)), qf 3 b13, qf 8 b14] 3 ⟨[(2, vb false)], []⟩ ?_
     exact q_J (false) hm
   ·replace hm := qA b13 hm
    refine q_vn [qd 2 (dex (cen [] [] 3 0 (yC v11) (wP v11) [36, 37] [1, 2])) (yJ (K := (kx E 52 0)) (b := false) ⟨[(36, vo 1 0 2 v7.1.length), (37, vo 2 0 2 v9.1.length)], [(1, ro 0 64 2 v7.1.length (rf e_Node v7.1)), (2, ro 0 64 2 v9.1.length (rf e_Node v9.1))]⟩ (opAt (rg Tryz.f4 62) 2) [] [] 3 (o1 (And.intro (Nat.le_refl v7.1.length) (Nat.le_refl v9.1.length))) rfl (ref23_SameNodes_ok v7.1 v9.1 v11 h12) (.inr ⟨(by kernel_rfl), KM v11⟩) (by kernel_rfl)), qf 3 b13] 3 ⟨[(2, vb false)], []⟩ ?_
    exact q_J (false) hm
end Saw
end Go.SL
