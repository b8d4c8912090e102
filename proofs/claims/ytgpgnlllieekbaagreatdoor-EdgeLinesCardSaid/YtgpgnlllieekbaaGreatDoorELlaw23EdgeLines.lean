import Derived.Test.YtgpgnlllieekbaaGreatDoorEBase
import Derived.Test.YtgpgnlllieekbaaGreatDoorELlaw23Small
import Derived.Test.YtgpgnlllieekbaaGreatDoorELlaw23awake
import Derived.Test.YtgpgnlllieekbaaGreatDoorELs
import Derived.Test.YtgpgnlllieekbaaGreatDoorEFa10
set_option linter.unusedVariables false
set_option linter.unusedSimpArgs false
namespace Go.SL
namespace Saw
open Go.Proofs
set_option maxHeartbeats 4000000
set_option maxRecDepth 100000
def qD0 (r : Bool) : V := vb r
def qDH (r : Bool) : List (Nat × (Nat × O)) := []
def FP (x17 : Bool) : St :=
 ⟨[(2, vb x17)], []⟩
theorem qCI (a1 : qO) (r : Bool) (hm : RH a1 = some r) : CtX Tryz.prog globs 3 0 0 [.agg (zK a1)] [] (qD0 r) (qDH r) := by
 unfold RH at hm
 refine q_E Tryz.f3 43 fun E => ?_
 refine q_sq ?_
 refine q_vn [] 0 ⟨[(1, vp 0 0)], [(0, bx 34 (zK a1))]⟩ ?_
 refine q_sq ?_
 refine q_sq ?_
 obtain ⟨v2, h3, hm⟩ := qD hm
 refine q_vu [qc 1 [7] 1 (qGi a1 v2 h3)] 1 [] [(9, vb (!v2))] [] [] ?_
 refine q_cn (!v2) (fun b4 => ?_) (fun b4 => ?_)
 ·replace hm := qC b4 hm
  refine q_sq ?_
  obtain ⟨v5, h6, hm⟩ := qD hm
  refine q_vn [qc 0 [] 1 (qBF v5 h6)] 1 ⟨[(2, vb v5)], []⟩ ?_
  obtain rfl := Option.some.inj hm
  refine q_rt ?_
  exact q_rm
 ·replace hm := qB b4 hm
  refine q_sk ?_
  refine q_sq ?_
  obtain ⟨v7, h8, hm⟩ := qD hm
  refine q_vu [qc 1 [12] 1 (qCe a1 v7 h8)] 1 [9] [(3, vp 5 0), (4, vi v7.2)] [] [(1, ro 0 3 1 v7.1.Sizes.length (rf e_i64 v7.1.Sizes)), (2, ro 0 37 1 v7.1.Gain.length (rf (qM e_i64) v7.1.Gain)), (3, ro 0 3 1 v7.1.Chip.length (rf e_i64 v7.1.Chip)), (4, ro 0 3 1 v7.1.Dust.length (rf e_i64 v7.1.Dust)), (5, bx 40 [ci v7.1.Len, ci v7.1.Kerf, ci v7.1.Pitch, .own 1 0 1 v7.1.Sizes.length, .own 2 0 1 v7.1.Gain.length, .own 3 0 1 v7.1.Chip.length, .own 4 0 1 v7.1.Dust.length])] ?_
  refine q_sq ?_
  obtain ⟨v9, h10, hm⟩ := qD hm
  refine q_vu [qc 12 [18, 20, 22, 24, 26, 28] 6 (qH8 a1.Solid a1.Defects a1.Products a1.Strip a1.Saw a1.Rates v9 h10)] 6 [1] [(5, vp 10 0), (6, vi v9.2)] [0] [(6, ro 0 3 1 v9.1.Sizes.length (rf e_i64 v9.1.Sizes)), (7, ro 0 37 1 v9.1.Gain.length (rf (qM e_i64) v9.1.Gain)), (8, ro 0 3 1 v9.1.Chip.length (rf e_i64 v9.1.Chip)), (9, ro 0 3 1 v9.1.Dust.length (rf e_i64 v9.1.Dust)), (10, bx 40 [ci v9.1.Len, ci v9.1.Kerf, ci v9.1.Pitch, .own 6 0 1 v9.1.Sizes.length, .own 7 0 1 v9.1.Gain.length, .own 8 0 1 v9.1.Chip.length, .own 9 0 1 v9.1.Dust.length])] ?_
  refine q_jn (ι := Bool) (fun p => FP p) (fun p => ZO p = some r) ?_ ?_
  ·rintro x17 hm
   show H _ (FP x17) _ _
   obtain rfl := Option.some.inj hm
   refine q_rt ?_
   exact q_rm
  ·obtain ⟨v11, h12, hm⟩ := qD hm
   rcases Bool.eq_false_or_eq_true v11 with b13 | b13
   ·replace hm := qC b13 hm
    rcases Bool.eq_false_or_eq_true (v7.2 == v9.2) with b14 | b14
    ·replace hm := qC b14 hm
     obtain ⟨v15, h16, hm⟩ := qD hm
     refine q_vn [qd 2 (dex (cen [] [] 11 0 (ZB v11) (jB v11) [32, 33] [1, 2, 3, 4, 6, 7, 8, 9])) (ZI (K := (kx E 43 0)) (b := false) ⟨[(32, va [ci v7.1.Len, ci v7.1.Kerf, ci v7.1.Pitch, .own 1 0 1 v7.1.Sizes.length, .own 2 0 1 v7.1.Gain.length, .own 3 0 1 v7.1.Chip.length, .own 4 0 1 v7.1.Dust.length]), (33, va [ci v9.1.Len, ci v9.1.Kerf, ci v9.1.Pitch, .own 6 0 1 v9.1.Sizes.length, .own 7 0 1 v9.1.Gain.length, .own 8 0 1 v9.1.Chip.length, .own 9 0 1 v9.1.Dust.length])], [(1, ro 0 3 1 v7.1.Sizes.length (rf e_i64 v7.1.Sizes)), (2, ro 0 37 1 v7.1.Gain.length (rf (qM e_i64) v7.1.Gain)), (3, ro 0 3 1 v7.1.Chip.length (rf e_i64 v7.1.Chip)), (4, ro 0 3 1 v7.1.Dust.length (rf e_i64 v7.1.Dust)), (6, ro 0 3 1 v9.1.Sizes.length (rf e_i64 v9.1.Sizes)), (7, ro 0 37 1 v9.1.Gain.length (rf (qM e_i64) v9.1.Gain)), (8, ro 0 3 1 v9.1.Chip.length (rf e_i64 v9.1.Chip)), (9, ro 0 3 1 v9.1.Dust.length (rf e_i64 v9.1.Dust))]⟩ (opAt (rg Tryz.f3 62) 2) [] [] 11 (o1 (And.intro (And.intro (Nat.le_refl v7.1.Sizes.length) (And.intro (Nat.le_refl v7.1.Gain.length) (And.intro (Nat.le_refl v7.1.Chip.length) (Nat.le_refl v7.1.Dust.length)))) (And.intro (Nat.le_refl v9.1.Sizes.length) (And.intro (Nat.le_refl v9.1.Gain.length) (And.intro (Nat.le_refl v9.1.Chip.length) (Nat.le_refl v9.1.Dust.length)))))) rfl (ref17_SameLine_ok (Line.mk v7.1.Len v7.1.Kerf v7.1.Pitch v7.1.Sizes v7.1.Gain v7.1.Chip v7.1.Dust) (Line.mk v9.1.Len v9.1.Kerf v9.1.Pitch v9.1.Sizes v9.1.Gain v9.1.Chip v9.1.Dust) v11 h12) (.inr ⟨(by kernel_rfl), DX v11⟩) (by kernel_rfl)), qf 3 b13, qf 8 b14, qk 9 [40] 11 ⟨[(40, vb true)], []⟩ (qBF v15 h16)] 11 ⟨[(2, vb v15)], []⟩ ?_
     exact q_J (v15) hm
    ·replace hm := qB b14 hm
     refine q_vn [qd 2 (dex (cen [] [] 11 0 (ZB v11) (jB v11) [32, 33] [1, 2, 3, 4, 6, 7, 8, 9])) (ZI (K := (kx E 43 0)) (b := false) ⟨[(32, va [ci v7.1.Len, ci v7.1.Kerf, ci v7.1.Pitch, .own 1 0 1 v7.1.Sizes.length, .own 2 0 1 v7.1.Gain.length, .own 3 0 1 v7.1.Chip.length, .own 4 0 1 v7.1.Dust.length]), (33, va [ci v9.1.Len, ci v9.1.Kerf, ci v9.1.Pitch, .own 6 0 1 v9.1.Sizes.length, .own 7 0 1 v9.1.Gain.length, .own 8 0 1 v9.1.Chip.length, .own 9 0 1 v9.1.Dust.length])], [(1, ro 0 3 1 v7.1.Sizes.length (rf e_i64 v7.1.Sizes)), (2, ro 0 37 1 v7.1.Gain.length (rf (qM e_i64) v7.1.Gain)), (3, ro 0 3 1 v7.1.Chip.length (rf e_i64 v7.1.Chip)), (4, ro 0 3 1 v7.1.Dust.length (rf e_i64 v7.1.Dust)), (6, ro 0 3 1 v9.1.Sizes.length (rf e_i64 v9.1.Sizes)), (7, ro 0 37 1 v9.1.Gain.length (rf (qM e_i64) v9.1.Gain)), (8, ro 0 3 1 v9.1.Chip.length (rf e_i64 v9.1.Chip)), (9, ro 0 3 1 v9.1.Dust.length (rf e_i64 v9.1.Dust))]⟩ (opAt (rg Tryz.f3 62) 2) [] [] 11 (o1 (And.intro (And.intro (Nat.le_refl v7.1.Sizes.length) (And.intro (Nat.le_refl v7.1.Gain.length) (And.intro (Nat.le_refl v7.1.Chip.length) (Nat.le_refl v7.1.Dust.length)))) (And.intro (Nat.le_refl v9.1.Sizes.length) (And.intro (Nat.le_refl v9.1.Gain.length) (And.intro (Nat.le_refl v9.1.Chip.length) (Nat.le_refl v9.1.Dust.length)))))) rfl (ref17_SameLine_ok (Line.mk v7.1.Len v7.1.Kerf v7.1.Pitch v7.1.Sizes v7.1.Gain v7.1.Chip v7.1.Dust) (Line.mk v9.1.Len v9.1.Kerf v9.1.Pitch v9.1.Sizes v9.1.Gain v9.1.Chip v9.1.Dust) v11 h12) (.inr ⟨(by kernel_rfl), DX v11⟩) (by kernel_rfl)), qf 3 b13, qf 8 b14] 11 ⟨[(2, vb false)], []⟩ ?_
     exact q_J (false) hm
   ·replace hm := qB b13 hm
    refine q_vn [qd 2 (dex (cen [] [] 11 0 (ZB v11) (jB v11) [32, 33] [1, 2, 3, 4, 6, 7, 8, 9])) (ZI (K := (kx E 43 0)) (b := false) ⟨[(32, va [ci v7.1.Len, ci v7.1.Kerf, ci v7.1.Pitch, .own 1 0 1 v7.1.Sizes.length, .own 2 0 1 v7.1.Gain.length, .own 3 0 1 v7.1.Chip.length, .own 4 0 1 v7.1.Dust.length]), (33, va [ci v9.1.Len, ci v9.1.Kerf, ci v9.1.Pitch, .own 6 0 1 v9.1.Sizes.length, .own 7 0 1 v9.1.Gain.length, .own 8 0 1 v9.1.Chip.length, .own 9 0 1 v9.1.Dust.length])], [(1, ro 0 3 1 v7.1.Sizes.length (rf e_i64 v7.1.Sizes)), (2, ro 0 37 1 v7.1.Gain.length (rf (qM e_i64) v7.1.Gain)), (3, ro 0 3 1 v7.1.Chip.length (rf e_i64 v7.1.Chip)), (4, ro 0 3 1 v7.1.Dust.length (rf e_i64 v7.1.Dust)), (6, ro 0 3 1 v9.1.Sizes.length (rf e_i64 v9.1.Sizes)), (7, ro 0 37 1 v9.1.Gain.length (rf (qM e_i64) v9.1.Gain)), (8, ro 0 3 1 v9.1.Chip.length (rf e_i64 v9.1.Chip)), (9, ro 0 3 1 v9.1.Dust.length (rf e_i64 v9.1.Dust))]⟩ (opAt (rg Tryz.f3 62) 2) [] [] 11 (o1 (And.intro (And.intro (Nat.le_refl v7.1.Sizes.length) (And.intro (Nat.le_refl v7.1.Gain.length) (And.intro (Nat.le_refl v7.1.Chip.length) (Nat.le_refl v7.1.Dust.length)))) (And.intro (Nat.le_refl v9.1.Sizes.length) (And.intro (Nat.le_refl v9.1.Gain.length) (And.intro (Nat.le_refl v9.1.Chip.length) (Nat.le_refl v9.1.Dust.length)))))) rfl (ref17_SameLine_ok (Line.mk v7.1.Len v7.1.Kerf v7.1.Pitch v7.1.Sizes v7.1.Gain v7.1.Chip v7.1.Dust) (Line.mk v9.1.Len v9.1.Kerf v9.1.Pitch v9.1.Sizes v9.1.Gain v9.1.Chip v9.1.Dust) v11 h12) (.inr ⟨(by kernel_rfl), DX v11⟩) (by kernel_rfl)), qf 3 b13] 11 ⟨[(2, vb false)], []⟩ ?_
    exact q_J (false) hm
end Saw
end Go.SL
