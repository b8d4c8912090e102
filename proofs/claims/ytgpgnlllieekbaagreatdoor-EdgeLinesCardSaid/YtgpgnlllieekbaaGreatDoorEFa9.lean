import Derived.Test.YtgpgnlllieekbaaGreatDoorEBase
import Derived.Test.YtgpgnlllieekbaaGreatDoorEFa8
import Derived.Test.YtgpgnlllieekbaaGreatDoorEFa7
import Derived.Test.YtgpgnlllieekbaaGreatDoorEFa1
set_option linter.unusedVariables false
set_option linter.unusedSimpArgs false
namespace Go.SL
namespace Saw
open Go.Proofs
set_option maxHeartbeats 4000000
set_option maxRecDepth 100000
def QG (r : Int) : V := vi r
def yS (r : Int) : List (Nat × (Nat × O)) := []
def VH (a1 : qA) (x5 : Int) (x14 : Bool) : St :=
 ⟨[(1, vp 0 0), (3, vi x5), (56, vb x14)], [(0, bx 58 (qE a1))]⟩
def VC (a1 : qA) (x5 : Int) (x9 : Bool) : St :=
 ⟨[(1, vp 0 0), (3, vi x5), (40, vb x9)], [(0, bx 58 (qE a1))]⟩
def JO (a1 : qA) (x5 : Int) : St :=
 ⟨[(1, vp 0 0), (3, vi x5)], [(0, bx 58 (qE a1))]⟩
def VF (a1 : qA) : St :=
 ⟨[(1, vp 0 0)], [(0, bx 58 (qE a1))]⟩
def VB (a1 : qA) (x20 : Int) (x24 : Bool) : St :=
 ⟨[(1, vp 0 0), (4, vi x20), (77, vb x24)], [(0, bx 58 (qE a1))]⟩
def JP (a1 : qA) (x20 : Int) : St :=
 ⟨[(1, vp 0 0), (4, vi x20)], [(0, bx 58 (qE a1))]⟩
def VG : St :=
 ⟨[], []⟩
theorem IK (E : Env 0) (a1 : qA) : ∀ (n : Nat) (x5 : Int) (res : Int ⊕ Unit), zN a1 n x5 = some res → HL (kx E 78 0) (nd Tryz.f65 500) (zZ 0 (fun o => VF a1) (fun v st => RetQ Tryz.prog Tryz.f65 (QG v) (yS v) .ret st) res) n (JO a1 x5) := by
 intro n
 induction n with
 | zero =>
  intro x5 res hm
  cases hm
 | succ n ih =>
  intro x5 res hm
  refine qN ?_
  refine q_sq ?_
  refine q_sq ?_
  refine q_vu [] 1 [] [(24, vb (decide (x5 < ((a1.Lengths.length : Nat) : Int))))] [] [] ?_
  refine q_cn (decide (x5 < ((a1.Lengths.length : Nat) : Int))) (fun b6 => ?_) (fun b6 => ?_)
  ·replace hm := qC b6 hm
   refine q_sk ?_
   refine q_sq ?_
   refine q_bk 1 ?_
   refine q_sq ?_
   refine q_jn (ι := Bool) (fun p => VC a1 x5 p) (fun p => WA a1 x5 (zN a1 n) p = some res) ?_ ?_
   ·rintro x9 hm
    show H _ (VC a1 x5 x9) _ _
    refine q_cn x9 (fun b10 => ?_) (fun b10 => ?_)
    ·replace hm := qC b10 hm
     refine q_sq ?_
     refine q_vn [] 1 ⟨[(2, vi 9)], []⟩ ?_
     obtain rfl := Option.some.inj hm
     refine q_rt ?_
     refine qR 9 ?_
     exact q_rm
    ·replace hm := qB b10 hm
     refine q_sk ?_
     refine q_jn (ι := Bool) (fun p => VH a1 x5 p) (fun p => ZT x5 (zN a1 n) p = some res) ?_ ?_
     ·rintro x14 hm
      show H _ (VH a1 x5 x14) _ _
      refine q_cn x14 (fun b15 => ?_) (fun b15 => ?_)
      ·replace hm := qC b15 hm
       refine q_sq ?_
       refine q_vn [] 1 ⟨[(2, vi 11)], []⟩ ?_
       obtain rfl := Option.some.inj hm
       refine q_rt ?_
       refine qR 11 ?_
       exact q_rm
      ·replace hm := qB b15 hm
       refine q_sk ?_
       refine q_vu [] 1 [3, 56] [(3, vi (w64 (x5 + 1)))] [] [] ?_
       exact q_hl (JO a1 (w64 (x5 + 1))) (ih (w64 (x5 + 1)) _ hm)
     ·rcases Bool.eq_false_or_eq_true (decide (x5 > 0)) with b11 | b11
      ·replace hm := qC b11 hm
       obtain ⟨g12, hm⟩ := qI hm
       obtain ⟨g13, hm⟩ := qI hm
       refine q_du [qf 2 b11, qd 6 (Dir.none) (inb_of g12), qd 12 (Dir.none) (inb_of g13)] [0, 1, 3, 7, 15, 7, 63, 127, 7, 263, 7, 1031, 3847, 7943, 16383, 32767] 1 [40] [(44, vp 0 5), (45, vc (tl e_i64 default a1.Lengths)), (46, vi x5), (47, vc (.lptr (e_i64 (a1.Lengths.getD x5.toNat default)))), (48, vi (a1.Lengths.getD x5.toNat default)), (49, vp 0 5), (50, vc (tl e_i64 default a1.Lengths)), (51, vi x5), (52, vi (w64 (x5 - 1))), (53, vc (.lptr (e_i64 (a1.Lengths.getD (w64 (x5 - 1)).toNat default)))), (54, vi (a1.Lengths.getD (w64 (x5 - 1)).toNat default)), (55, vb (decide ((a1.Lengths.getD x5.toNat default) ≤ (a1.Lengths.getD (w64 (x5 - 1)).toNat default)))), (56, vb (decide ((a1.Lengths.getD x5.toNat default) ≤ (a1.Lengths.getD (w64 (x5 - 1)).toNat default))))] [] [] ?_
       exact q_J (decide ((a1.Lengths.getD x5.toNat default) ≤ (a1.Lengths.getD (w64 (x5 - 1)).toNat default))) hm
      ·replace hm := qB b11 hm
       refine q_du [qf 2 b11] [0, 1, 3, 7, 15, 7, 63, 127, 7, 263, 7, 1031, 3847, 7943, 16383, 32767] 1 [40] [(56, vb false)] [] [] ?_
       exact q_J (false) hm
   ·obtain ⟨g7, hm⟩ := qI hm
    rcases Bool.eq_false_or_eq_true (decide ((a1.Lengths.getD x5.toNat default) < 100)) with b8 | b8
    ·replace hm := qC b8 hm
     refine q_vu [qd 3 (Dir.none) (inb_of g7), qf 6 b8] 1 [24] [(40, vb true)] [] [] ?_
     exact q_J (true) hm
    ·replace hm := qB b8 hm
     refine q_vu [qd 3 (Dir.none) (inb_of g7), qf 6 b8, qd 10 (Dir.none) (inb_of g7)] 1 [24] [(34, vp 0 5), (35, vc (tl e_i64 default a1.Lengths)), (36, vi x5), (37, vc (.lptr (e_i64 (a1.Lengths.getD x5.toNat default)))), (38, vi (a1.Lengths.getD x5.toNat default)), (39, vb (decide ((a1.Lengths.getD x5.toNat default) > 20000))), (40, vb (decide ((a1.Lengths.getD x5.toNat default) > 20000)))] [] [] ?_
     exact q_J (decide ((a1.Lengths.getD x5.toNat default) > 20000)) hm
  ·replace hm := qB b6 hm
   refine q_ex 0 ?_
   obtain rfl := Option.some.inj hm
   exact wC () (by kernel_rfl) (by kernel_rfl)
theorem CE (E : Env 0) (a1 : qA) : ∀ (n : Nat) (x20 : Int) (res : Int ⊕ Unit), zT a1 n x20 = some res → HL (kx E 78 0) (nd Tryz.f65 1012) (zZ 2 (fun o => VG) (fun v st => RetQ Tryz.prog Tryz.f65 (QG v) (yS v) .ret st) res) n (JP a1 x20) := by
 intro n
 induction n with
 | zero =>
  intro x20 res hm
  cases hm
 | succ n ih =>
  intro x20 res hm
  refine qN ?_
  refine q_sq ?_
  refine q_sq ?_
  refine q_vu [] 1 [] [(61, vb (decide (x20 < ((a1.Prices.length : Nat) : Int))))] [] [] ?_
  refine q_cn (decide (x20 < ((a1.Prices.length : Nat) : Int))) (fun b21 => ?_) (fun b21 => ?_)
  ·replace hm := qC b21 hm
   refine q_sk ?_
   refine q_sq ?_
   refine q_bk 3 ?_
   refine q_jn (ι := Bool) (fun p => VB a1 x20 p) (fun p => ZV x20 (zT a1 n) p = some res) ?_ ?_
   ·rintro x24 hm
    show H _ (VB a1 x20 x24) _ _
    refine q_cn x24 (fun b25 => ?_) (fun b25 => ?_)
    ·replace hm := qC b25 hm
     refine q_sq ?_
     refine q_vn [] 1 ⟨[(2, vi 9)], []⟩ ?_
     obtain rfl := Option.some.inj hm
     refine q_rt ?_
     refine qR 9 ?_
     exact q_rm
    ·replace hm := qB b25 hm
     refine q_sk ?_
     refine q_vu [] 1 [4, 77] [(4, vi (w64 (x20 + 1)))] [] [] ?_
     exact q_hl (JP a1 (w64 (x20 + 1))) (ih (w64 (x20 + 1)) _ hm)
   ·obtain ⟨g22, hm⟩ := qI hm
    rcases Bool.eq_false_or_eq_true (decide ((a1.Prices.getD x20.toNat default) < 0)) with b23 | b23
    ·replace hm := qC b23 hm
     refine q_vu [qd 3 (Dir.none) (inb_of g22), qf 6 b23] 1 [61] [(77, vb true)] [] [] ?_
     exact q_J (true) hm
    ·replace hm := qB b23 hm
     refine q_vu [qd 3 (Dir.none) (inb_of g22), qf 6 b23, qd 10 (Dir.none) (inb_of g22)] 1 [61] [(71, vp 0 6), (72, vc (tl e_i64 default a1.Prices)), (73, vi x20), (74, vc (.lptr (e_i64 (a1.Prices.getD x20.toNat default)))), (75, vi (a1.Prices.getD x20.toNat default)), (76, vb (decide ((a1.Prices.getD x20.toNat default) > 1000000))), (77, vb (decide ((a1.Prices.getD x20.toNat default) > 1000000)))] [] [] ?_
     exact q_J (decide ((a1.Prices.getD x20.toNat default) > 1000000)) hm
  ·replace hm := qB b21 hm
   refine q_ex 2 ?_
   obtain rfl := Option.some.inj hm
   exact wC () (by kernel_rfl) (by kernel_rfl)
theorem qBI (a1 : qA) (r : Int) (hm : ZN a1 = some r) : CtX Tryz.prog globs 65 0 0 [.agg (qE a1)] [] (QG r) (yS r) := by
 unfold ZN at hm
 refine q_E Tryz.f65 78 fun E => ?_
 refine q_sq ?_
 refine q_vn [] 0 ⟨[(1, vp 0 0)], [(0, bx 58 (qE a1))]⟩ ?_
 refine q_sq ?_
 refine q_sq ?_
 refine q_vu [] 1 [] [(8, vb (((a1.Lengths.length : Nat) : Int) == 0))] [] [] ?_
 refine q_cn (((a1.Lengths.length : Nat) : Int) == 0) (fun b2 => ?_) (fun b2 => ?_)
 ·replace hm := qC b2 hm
  refine q_sq ?_
  refine q_vn [] 1 ⟨[(2, vi 3)], []⟩ ?_
  obtain rfl := Option.some.inj hm
  refine q_rt ?_
  exact q_rm
 ·replace hm := qB b2 hm
  refine q_sk ?_
  refine q_sq ?_
  refine q_sq ?_
  refine q_vu [] 1 [8] [(12, vb (decide (((a1.Lengths.length : Nat) : Int) > 8)))] [] [] ?_
  refine q_cn (decide (((a1.Lengths.length : Nat) : Int) > 8)) (fun b3 => ?_) (fun b3 => ?_)
  ·replace hm := qC b3 hm
   refine q_sq ?_
   refine q_vn [] 1 ⟨[(2, vi 4)], []⟩ ?_
   obtain rfl := Option.some.inj hm
   refine q_rt ?_
   exact q_rm
  ·replace hm := qB b3 hm
   refine q_sk ?_
   refine q_sq ?_
   refine q_sq ?_
   refine q_vu [] 1 [12] [(19, vb (((a1.Prices.length : Nat) : Int) != ((a1.Lengths.length : Nat) : Int)))] [] [] ?_
   refine q_cn (((a1.Prices.length : Nat) : Int) != ((a1.Lengths.length : Nat) : Int)) (fun b4 => ?_) (fun b4 => ?_)
   ·replace hm := qC b4 hm
    refine q_sq ?_
    refine q_vn [] 1 ⟨[(2, vi 19)], []⟩ ?_
    obtain rfl := Option.some.inj hm
    refine q_rt ?_
    exact q_rm
   ·replace hm := qB b4 hm
    refine q_sk ?_
    refine q_sq ?_
    refine q_sq ?_
    refine q_vu [] 1 [19] [(3, vi 0)] [] [] ?_
    obtain ⟨u18, h17, hm⟩ := qD hm
    refine zH (nd Tryz.f65 500) 0 (by kernel_rfl) FUEL (fun o => VF a1) (fun v st => RetQ Tryz.prog Tryz.f65 (QG v) (yS v) .ret st) u18 (q_hl (JO a1 0) (IK E a1 FUEL 0 u18 h17)) ?_ ?_
    ·rintro v19 rfl st hr
     obtain rfl := Option.some.inj hm
     exact hr
    ·rintro o16 rfl
     replace hm : _ = some r := hm
     refine q_sq ?_
     refine q_sq ?_
     refine q_vu [] 1 [] [(4, vi 0)] [] [] ?_
     obtain ⟨u28, h27, hm⟩ := qD hm
     refine zH (nd Tryz.f65 1012) 2 (by kernel_rfl) FUEL (fun o => VG) (fun v st => RetQ Tryz.prog Tryz.f65 (QG v) (yS v) .ret st) u28 (q_hl (JP a1 0) (CE E a1 FUEL 0 u28 h27)) ?_ ?_
     ·rintro v29 rfl st hr
      obtain rfl := Option.some.inj hm
      exact hr
     ·rintro o26 rfl
      replace hm : _ = some r := hm
      refine q_sq ?_
      refine q_vn [] 1 ⟨[(2, vi 0)], []⟩ ?_
      obtain rfl := Option.some.inj hm
      refine q_rt ?_
      exact q_rm
def JW (r : Int) : V := vi r
def QN (r : Int) : List (Nat × (Nat × O)) := []
theorem qIB (r : Int) : YC (QN r) := by
 intro i k o h
 unfold QN at h
 cases h
def DT (a1 : List qA) (x3 : Int) (x9 : Int) : St :=
 ⟨[(0, vc (tl qE default a1)), (3, vi x3), (4, vp 0 0), (5, vi x9)], [(0, bx 58 [cs ((a1.getD x3.toNat default).Name), ci ((a1.getD x3.toNat default).Thick), ci ((a1.getD x3.toNat default).Width), ci ((a1.getD x3.toNat default).Allow), ci ((a1.getD x3.toNat default).Wane), tl e_i64 default ((a1.getD x3.toNat default).Lengths), tl e_i64 default ((a1.getD x3.toNat default).Prices)])]⟩
def OP (a1 : List qA) (x3 : Int) : St :=
 ⟨[(0, vc (tl qE default a1)), (3, vi x3), (4, vp 0 0)], [(0, bx 58 [cs ((a1.getD x3.toNat default).Name), ci ((a1.getD x3.toNat default).Thick), ci ((a1.getD x3.toNat default).Width), ci ((a1.getD x3.toNat default).Allow), ci ((a1.getD x3.toNat default).Wane), tl e_i64 default ((a1.getD x3.toNat default).Lengths), tl e_i64 default ((a1.getD x3.toNat default).Prices)])]⟩
def IY (a1 : List qA) (x3 : Int) (x24 : Bool) : St :=
 ⟨[(0, vc (tl qE default a1)), (3, vi x3), (4, vp 0 0), (78, vb x24)], [(0, bx 58 [cs ((a1.getD x3.toNat default).Name), ci ((a1.getD x3.toNat default).Thick), ci ((a1.getD x3.toNat default).Width), ci ((a1.getD x3.toNat default).Allow), ci ((a1.getD x3.toNat default).Wane), tl e_i64 default ((a1.getD x3.toNat default).Lengths), tl e_i64 default ((a1.getD x3.toNat default).Prices)])]⟩
def BC (a1 : List qA) (x3 : Int) : St :=
 ⟨[(0, vc (tl qE default a1)), (3, vi x3)], []⟩
def IJ : St :=
 ⟨[], []⟩
theorem qDT (E : Env 0) (a1 : List qA) (x3 : Int) : ∀ (n : Nat) (x9 : Int) (res : Int ⊕ Unit), ZF a1 x3 n x9 = some res → HL (kx E 91 0) (nd Tryz.f37 59700) (zZ 2 (fun o => OP a1 x3) (fun v st => RetQ Tryz.prog Tryz.f37 (JW v) (QN v) .ret st) res) n (DT a1 x3 x9) := by
 intro n
 induction n with
 | zero =>
  intro x9 res hm
  cases hm
 | succ n ih =>
  intro x9 res hm
  refine qN ?_
  refine q_sq ?_
  refine q_sq ?_
  refine q_vu [] 1 [] [(28, vb (decide (x9 < x3)))] [] [] ?_
  refine q_cn (decide (x9 < x3)) (fun b10 => ?_) (fun b10 => ?_)
  ·replace hm := qC b10 hm
   refine q_sk ?_
   refine q_sq ?_
   refine q_bk 3 ?_
   refine q_sq ?_
   obtain ⟨g11, hm⟩ := qI hm
   refine q_du [qd 2 (Dir.none) (inb_of g11)] [0, 0, 3, 7, 15, 0, 32, 127] 1 [28] [(38, vb (strEq ((a1.getD x9.toNat default).Name) ((a1.getD x3.toNat default).Name)))] [] [] ?_
   refine q_cn (strEq ((a1.getD x9.toNat default).Name) ((a1.getD x3.toNat default).Name)) (fun b12 => ?_) (fun b12 => ?_)
   ·replace hm := qC b12 hm
    refine q_sq ?_
    refine q_vn [] 1 ⟨[(2, vi 7)], []⟩ ?_
    obtain rfl := Option.some.inj hm
    refine q_rt ?_
    refine qR 7 ?_
    exact q_rm
   ·replace hm := qB b12 hm
    refine q_sk ?_
    refine q_vu [] 1 [5, 38] [(5, vi (w64 (x9 + 1)))] [] [] ?_
    exact q_hl (DT a1 x3 (w64 (x9 + 1))) (ih (w64 (x9 + 1)) _ hm)
  ·replace hm := qB b10 hm
   refine q_ex 2 ?_
   obtain rfl := Option.some.inj hm
   exact wC () (by kernel_rfl) (by kernel_rfl)
theorem qDX (E : Env 0) (a1 : List qA) : ∀ (n : Nat) (x3 : Int) (res : Int ⊕ Unit), zQ a1 n x3 = some res → HL (kx E 91 0) (nd Tryz.f37 116) (zZ 0 (fun o => IJ) (fun v st => RetQ Tryz.prog Tryz.f37 (JW v) (QN v) .ret st) res) n (BC a1 x3) := by
 intro n
 induction n with
 | zero =>
  intro x3 res hm
  cases hm
 | succ n ih =>
  intro x3 res hm
  refine qN ?_
  refine q_sq ?_
  refine q_sq ?_
  refine q_vu [] 0 [] [(15, vb (decide (x3 < ((a1.length : Nat) : Int))))] [] [] ?_
  refine q_cn (decide (x3 < ((a1.length : Nat) : Int))) (fun b4 => ?_) (fun b4 => ?_)
  ·replace hm := qC b4 hm
   refine q_sk ?_
   refine q_sq ?_
   refine q_bk 1 ?_
   refine q_sq ?_
   obtain ⟨g5, hm⟩ := qI hm
   refine q_vu [qd 2 (Dir.none) (inb_of g5)] 0 [15] [(4, vp 0 0)] [] [(0, bx 58 [cs ((a1.getD x3.toNat default).Name), ci ((a1.getD x3.toNat default).Thick), ci ((a1.getD x3.toNat default).Width), ci ((a1.getD x3.toNat default).Allow), ci ((a1.getD x3.toNat default).Wane), tl e_i64 default ((a1.getD x3.toNat default).Lengths), tl e_i64 default ((a1.getD x3.toNat default).Prices)])] ?_
   refine q_sq ?_
   refine q_sq ?_
   obtain ⟨v6, h7, hm⟩ := qD hm
   refine q_vu [qc 2 [23] 1 (qFe ((a1.getD x3.toNat default).Name) v6 h7)] 1 [] [(25, vb (!v6))] [] [] ?_
   refine q_cn (!v6) (fun b8 => ?_) (fun b8 => ?_)
   ·replace hm := qC b8 hm
    refine q_sq ?_
    refine q_vn [] 1 ⟨[(2, vi 6)], []⟩ ?_
    obtain rfl := Option.some.inj hm
    refine q_rt ?_
    refine qR 6 ?_
    exact q_rm
   ·replace hm := qB b8 hm
    refine q_sk ?_
    refine q_sq ?_
    refine q_sq ?_
    refine q_vu [] 1 [25] [(5, vi 0)] [] [] ?_
    obtain ⟨u15, h14, hm⟩ := qD hm
    refine zH (nd Tryz.f37 59700) 2 (by kernel_rfl) FUEL (fun o => OP a1 x3) (fun v st => RetQ Tryz.prog Tryz.f37 (JW v) (QN v) .ret st) u15 (q_hl (DT a1 x3 0) (qDT E a1 x3 FUEL 0 u15 h14)) ?_ ?_
    ·rintro v16 rfl st hr
     obtain rfl := Option.some.inj hm
     exact qR v16 hr
    ·rintro o13 rfl
     replace hm : _ = some res := hm
     refine q_sq ?_
     refine q_jn (ι := Bool) (fun p => IY a1 x3 p) (fun p => wS a1 x3 (zQ a1 n) p = some res) ?_ ?_
     ·rintro x24 hm
      show H _ (IY a1 x3 x24) _ _
      refine q_cn x24 (fun b25 => ?_) (fun b25 => ?_)
      ·replace hm := qC b25 hm
       refine q_sq ?_
       refine q_vn [] 1 ⟨[(2, vi 9)], []⟩ ?_
       obtain rfl := Option.some.inj hm
       refine q_rt ?_
       refine qR 9 ?_
       exact q_rm
      ·replace hm := qB b25 hm
       refine q_sk ?_
       refine q_sq ?_
       refine q_sq ?_
       obtain ⟨v26, h27, hm⟩ := qD hm
       refine q_vu [qc 1 [80] 1 (MN (a1.getD x3.toNat default) v26 h27)] 1 [78] [(7, vi v26.2)] [] [] ?_
       refine q_sq ?_
       refine q_vu [] 1 [7] [(85, vb (decide (v26.2 > 600)))] [] [] ?_
       refine q_cn (decide (v26.2 > 600)) (fun b28 => ?_) (fun b28 => ?_)
       ·replace hm := qC b28 hm
        refine q_sq ?_
        refine q_vn [] 1 ⟨[(2, vi 9)], []⟩ ?_
        obtain rfl := Option.some.inj hm
        refine q_rt ?_
        refine qR 9 ?_
        exact q_rm
       ·replace hm := qB b28 hm
        refine q_sk ?_
        refine q_sq ?_
        obtain ⟨v29, h30, hm⟩ := qD hm
        refine q_vu [qc 1 [86] 1 (qBI (a1.getD x3.toNat default) v29 h30)] 1 [4, 85] [(8, vi v29)] [0] [] ?_
        refine q_sq ?_
        refine q_vu [] 1 [] [(89, vb (v29 != 0))] [] [] ?_
        refine q_cn (v29 != 0) (fun b31 => ?_) (fun b31 => ?_)
        ·replace hm := qC b31 hm
         refine q_sq ?_
         refine q_vn [] 1 ⟨[(2, vi v29)], []⟩ ?_
         obtain rfl := Option.some.inj hm
         refine q_rt ?_
         refine qR v29 ?_
         exact q_rm
        ·replace hm := qB b31 hm
         refine q_sk ?_
         refine q_vu [] 1 [3, 8, 89] [(3, vi (w64 (x3 + 1)))] [] [] ?_
         exact q_hl (BC a1 (w64 (x3 + 1))) (ih (w64 (x3 + 1)) _ hm)
     ·rcases Bool.eq_false_or_eq_true (decide (((a1.getD x3.toNat default).Thick) < 5)) with b17 | b17
      ·replace hm := qC b17 hm
       refine q_vu [qf 3 b17] 1 [] [(78, vb true)] [] [] ?_
       exact q_J (true) hm
      ·replace hm := qB b17 hm
       rcases Bool.eq_false_or_eq_true (decide (((a1.getD x3.toNat default).Thick) > 300)) with b18 | b18
       ·replace hm := qC b18 hm
        refine q_vu [qf 3 b17, qf 8 b18] 1 [] [(43, vp 0 1), (44, vi ((a1.getD x3.toNat default).Thick)), (45, vb (decide (((a1.getD x3.toNat default).Thick) > 300))), (78, vb true)] [] [] ?_
        exact q_J (true) hm
       ·replace hm := qB b18 hm
        rcases Bool.eq_false_or_eq_true (decide (((a1.getD x3.toNat default).Width) < ((a1.getD x3.toNat default).Thick))) with b19 | b19
        ·replace hm := qC b19 hm
         refine q_vu [qf 3 b17, qf 8 b18, qf 15 b19] 1 [] [(43, vp 0 1), (44, vi ((a1.getD x3.toNat default).Thick)), (45, vb (decide (((a1.getD x3.toNat default).Thick) > 300))), (48, vp 0 2), (49, vi ((a1.getD x3.toNat default).Width)), (50, vp 0 1), (51, vi ((a1.getD x3.toNat default).Thick)), (52, vb (decide (((a1.getD x3.toNat default).Width) < ((a1.getD x3.toNat default).Thick)))), (78, vb true)] [] [] ?_
         exact q_J (true) hm
        ·replace hm := qB b19 hm
         rcases Bool.eq_false_or_eq_true (decide (((a1.getD x3.toNat default).Width) > 600)) with b20 | b20
         ·replace hm := qC b20 hm
          refine q_vu [qf 3 b17, qf 8 b18, qf 15 b19, qf 20 b20] 1 [] [(43, vp 0 1), (44, vi ((a1.getD x3.toNat default).Thick)), (45, vb (decide (((a1.getD x3.toNat default).Thick) > 300))), (48, vp 0 2), (49, vi ((a1.getD x3.toNat default).Width)), (50, vp 0 1), (51, vi ((a1.getD x3.toNat default).Thick)), (52, vb (decide (((a1.getD x3.toNat default).Width) < ((a1.getD x3.toNat default).Thick)))), (55, vp 0 2), (56, vi ((a1.getD x3.toNat default).Width)), (57, vb (decide (((a1.getD x3.toNat default).Width) > 600))), (78, vb true)] [] [] ?_
          exact q_J (true) hm
         ·replace hm := qB b20 hm
          rcases Bool.eq_false_or_eq_true (decide (((a1.getD x3.toNat default).Allow) < 0)) with b21 | b21
          ·replace hm := qC b21 hm
           refine q_vu [qf 3 b17, qf 8 b18, qf 15 b19, qf 20 b20, qf 25 b21] 1 [] [(43, vp 0 1), (44, vi ((a1.getD x3.toNat default).Thick)), (45, vb (decide (((a1.getD x3.toNat default).Thick) > 300))), (48, vp 0 2), (49, vi ((a1.getD x3.toNat default).Width)), (50, vp 0 1), (51, vi ((a1.getD x3.toNat default).Thick)), (52, vb (decide (((a1.getD x3.toNat default).Width) < ((a1.getD x3.toNat default).Thick)))), (55, vp 0 2), (56, vi ((a1.getD x3.toNat default).Width)), (57, vb (decide (((a1.getD x3.toNat default).Width) > 600))), (60, vp 0 3), (61, vi ((a1.getD x3.toNat default).Allow)), (62, vb (decide (((a1.getD x3.toNat default).Allow) < 0))), (78, vb true)] [] [] ?_
           exact q_J (true) hm
          ·replace hm := qB b21 hm
           rcases Bool.eq_false_or_eq_true (decide (((a1.getD x3.toNat default).Allow) > 200)) with b22 | b22
           ·replace hm := qC b22 hm
            refine q_vu [qf 3 b17, qf 8 b18, qf 15 b19, qf 20 b20, qf 25 b21, qf 30 b22] 1 [] [(43, vp 0 1), (44, vi ((a1.getD x3.toNat default).Thick)), (45, vb (decide (((a1.getD x3.toNat default).Thick) > 300))), (48, vp 0 2), (49, vi ((a1.getD x3.toNat default).Width)), (50, vp 0 1), (51, vi ((a1.getD x3.toNat default).Thick)), (52, vb (decide (((a1.getD x3.toNat default).Width) < ((a1.getD x3.toNat default).Thick)))), (55, vp 0 2), (56, vi ((a1.getD x3.toNat default).Width)), (57, vb (decide (((a1.getD x3.toNat default).Width) > 600))), (60, vp 0 3), (61, vi ((a1.getD x3.toNat default).Allow)), (62, vb (decide (((a1.getD x3.toNat default).Allow) < 0))), (65, vp 0 3), (66, vi ((a1.getD x3.toNat default).Allow)), (67, vb (decide (((a1.getD x3.toNat default).Allow) > 200))), (78, vb true)] [] [] ?_
            exact q_J (true) hm
           ·replace hm := qB b22 hm
            rcases Bool.eq_false_or_eq_true (decide (((a1.getD x3.toNat default).Wane) < 0)) with b23 | b23
            ·replace hm := qC b23 hm
             refine q_vu [qf 3 b17, qf 8 b18, qf 15 b19, qf 20 b20, qf 25 b21, qf 30 b22, qf 35 b23] 1 [] [(43, vp 0 1), (44, vi ((a1.getD x3.toNat default).Thick)), (45, vb (decide (((a1.getD x3.toNat default).Thick) > 300))), (48, vp 0 2), (49, vi ((a1.getD x3.toNat default).Width)), (50, vp 0 1), (51, vi ((a1.getD x3.toNat default).Thick)), (52, vb (decide (((a1.getD x3.toNat default).Width) < ((a1.getD x3.toNat default).Thick)))), (55, vp 0 2), (56, vi ((a1.getD x3.toNat default).Width)), (57, vb (decide (((a1.getD x3.toNat default).Width) > 600))), (60, vp 0 3), (61, vi ((a1.getD x3.toNat default).Allow)), (62, vb (decide (((a1.getD x3.toNat default).Allow) < 0))), (65, vp 0 3), (66, vi ((a1.getD x3.toNat default).Allow)), (67, vb (decide (((a1.getD x3.toNat default).Allow) > 200))), (70, vp 0 4), (71, vi ((a1.getD x3.toNat default).Wane)), (72, vb (decide (((a1.getD x3.toNat default).Wane) < 0))), (78, vb true)] [] [] ?_
             exact q_J (true) hm
            ·replace hm := qB b23 hm
             refine q_vu [qf 3 b17, qf 8 b18, qf 15 b19, qf 20 b20, qf 25 b21, qf 30 b22, qf 35 b23] 1 [] [(43, vp 0 1), (44, vi ((a1.getD x3.toNat default).Thick)), (45, vb (decide (((a1.getD x3.toNat default).Thick) > 300))), (48, vp 0 2), (49, vi ((a1.getD x3.toNat default).Width)), (50, vp 0 1), (51, vi ((a1.getD x3.toNat default).Thick)), (52, vb (decide (((a1.getD x3.toNat default).Width) < ((a1.getD x3.toNat default).Thick)))), (55, vp 0 2), (56, vi ((a1.getD x3.toNat default).Width)), (57, vb (decide (((a1.getD x3.toNat default).Width) > 600))), (60, vp 0 3), (61, vi ((a1.getD x3.toNat default).Allow)), (62, vb (decide (((a1.getD x3.toNat default).Allow) < 0))), (65, vp 0 3), (66, vi ((a1.getD x3.toNat default).Allow)), (67, vb (decide (((a1.getD x3.toNat default).Allow) > 200))), (70, vp 0 4), (71, vi ((a1.getD x3.toNat default).Wane)), (72, vb (decide (((a1.getD x3.toNat default).Wane) < 0))), (75, vp 0 4), (76, vi ((a1.getD x3.toNat default).Wane)), (77, vb (decide (((a1.getD x3.toNat default).Wane) > 1000))), (78, vb (decide (((a1.getD x3.toNat default).Wane) > 1000)))] [] [] ?_
             exact q_J (decide (((a1.getD x3.toNat default).Wane) > 1000)) hm
  ·replace hm := qB b4 hm
   refine q_ex 0 ?_
   obtain rfl := Option.some.inj hm
   exact wC () (by kernel_rfl) (by kernel_rfl)
theorem LX (a1 : List qA) (r : Int) (hm : YY a1 = some r) : CtX Tryz.prog globs 37 0 0 [.one (tl qE default a1)] [] (JW r) (QN r) := by
 unfold YY at hm
 refine q_E Tryz.f37 91 fun E => ?_
 refine q_sq ?_
 refine q_vn [] 0 ⟨[(0, vc (tl qE default a1))], []⟩ ?_
 refine q_sq ?_
 refine q_sq ?_
 refine q_vu [] 0 [] [(11, vb (decide (((a1.length : Nat) : Int) > 16)))] [] [] ?_
 refine q_cn (decide (((a1.length : Nat) : Int) > 16)) (fun b2 => ?_) (fun b2 => ?_)
 ·replace hm := qC b2 hm
  refine q_sq ?_
  refine q_vn [] 0 ⟨[(2, vi 4)], []⟩ ?_
  obtain rfl := Option.some.inj hm
  refine q_rt ?_
  exact q_rm
 ·replace hm := qB b2 hm
  refine q_sk ?_
  refine q_sq ?_
  refine q_sq ?_
  refine q_vu [] 0 [11] [(3, vi 0)] [] [] ?_
  obtain ⟨u34, h33, hm⟩ := qD hm
  refine zH (nd Tryz.f37 116) 0 (by kernel_rfl) FUEL (fun o => IJ) (fun v st => RetQ Tryz.prog Tryz.f37 (JW v) (QN v) .ret st) u34 (q_hl (BC a1 0) (qDX E a1 FUEL 0 u34 h33)) ?_ ?_
  ·rintro v35 rfl st hr
   obtain rfl := Option.some.inj hm
   exact hr
  ·rintro o32 rfl
   replace hm : _ = some r := hm
   refine q_sq ?_
   refine q_vn [] 0 ⟨[(2, vi 0)], []⟩ ?_
   obtain rfl := Option.some.inj hm
   refine q_rt ?_
   exact q_rm
set_option maxRecDepth 100000
def qIs (r : Bool) : V := vb r
def qIh (r : Bool) : List (Nat × (Nat × O)) := []
def IT (x12 : Bool) : St :=
 ⟨[(6, vb x12)], []⟩
theorem qG9 (a1 : List Slice) (a2 : List Defect) (a3 : qA) (r : Bool) (hm : HD a1 a2 a3 = some r) : CtX Tryz.prog globs 68 0 0 [.one (tl qF default a1), .one (tl qG default a2), .agg (qE a3)] [] (qIs r) (qIh r) := by
 unfold HD at hm
 refine q_E Tryz.f68 21 fun E => ?_
 refine q_sq ?_
 refine q_vn [] 0 ⟨[(0, vc (tl qF default a1)), (1, vc (tl qG default a2)), (5, vp 0 0)], [(0, bx 58 (qE a3))]⟩ ?_
 refine q_jn (ι := Bool) (fun p => IT p) (fun p => XR p = some r) ?_ ?_
 ·rintro x12 hm
  show H _ (IT x12) _ _
  obtain rfl := Option.some.inj hm
  refine q_rt ?_
  exact q_rm
 ·obtain ⟨v4, h5, hm⟩ := qD hm
  rcases Bool.eq_false_or_eq_true (v4 == 0) with b6 | b6
  ·replace hm := qC b6 hm
   obtain ⟨v7, h8, hm⟩ := qD hm
   rcases Bool.eq_false_or_eq_true (v7 == 0) with b9 | b9
   ·replace hm := qC b9 hm
    obtain ⟨v10, h11, hm⟩ := qD hm
    refine q_vn [qc 1 [7] 1 (wT a1 v4 h5), qf 3 b6, qk 5 [10, 11] 1 ⟨[(10, vb true), (11, vc (tl qG default a2))], []⟩ (MP a2 v7 h8), qf 8 b9, qd 10 (drw 1 0 (rf qE ([a3] : List qA))) (litP qE default 7 (fun _ => rfl) ([a3] : List qA) 1 rfl), qd 11 (dex (cen [] [] 2 0 (JW v10) (QN v10) [15, 17] [1])) (ZI (K := (kx E 21 0)) (xs' := [.one (.lst 1 (rf qE ([a3] : List qA)))]) (b := false) ⟨[(15, vb true), (17, vo 1 0 7 1)], [(1, ro 0 58 7 1 (rf qE ([a3] : List qA)))]⟩ (opAt (rg Tryz.f68 6) 11) [] [] 2 (o1 (Nat.le_refl 1)) (by simp only [tl, rf, show ([a3] : List qA).length = 1 from rfl]) (LX ([a3] : List qA) v10 h11) (.inr ⟨(by kernel_rfl), qIB v10⟩) (by kernel_rfl))] 1 ⟨[(6, vb (v10 == 0))], []⟩ ?_
    exact q_J (v10 == 0) hm
   ·replace hm := qB b9 hm
    refine q_vn [qc 1 [7] 1 (wT a1 v4 h5), qf 3 b6, qk 5 [10, 11] 1 ⟨[(10, vb true), (11, vc (tl qG default a2))], []⟩ (MP a2 v7 h8), qf 8 b9] 1 ⟨[(6, vb false)], []⟩ ?_
    exact q_J (false) hm
  ·replace hm := qB b6 hm
   refine q_vn [qc 1 [7] 1 (wT a1 v4 h5), qf 3 b6] 1 ⟨[(6, vb false)], []⟩ ?_
   exact q_J (false) hm
open Go.Proofs
set_option maxHeartbeats 4000000
set_option maxRecDepth 100000
def qJy (r : Span × Int × Bool) : V := .tup [.agg (e_Span r.1), .one (ci r.2.1), .one (cb r.2.2)]
def qJL (r : Span × Int × Bool) : List (Nat × (Nat × O)) := []
def qAS (a1 : List Slice) (a2 : List Defect) (a3 : qA) (a4 : Rect) (a5 : Int) (a6 : Int) (x19 : Int) (x26 : Int) (x38 : Int) (x39 : Bool) (x40 : Span) : St :=
 ⟨[(0, vc (tl qF default a1)), (1, vc (tl qG default a2)), (4, vi a5), (5, vi a6), (8, vp 0 0), (9, vp 1 0), (12, vp 2 0), (15, vp 3 0), (16, vi x38), (17, vb x39), (18, vi x19), (19, vi x26)], [(0, bx 58 (qE a3)), (1, bx 28 (qK a4)), (2, bx 26 [ci 0, ci 0]), (3, bx 26 (e_Span x40))]⟩
def qAj (a1 : List Slice) (a2 : List Defect) (a3 : qA) (a4 : Rect) (a5 : Int) (a6 : Int) (x19 : Int) (x24 : Int) (x25 : Bool) (x26 : Int) (x27 : Span) (v33 : Int) (x36 : Bool) : St :=
 ⟨[(0, vc (tl qF default a1)), (1, vc (tl qG default a2)), (4, vi a5), (5, vi a6), (8, vp 0 0), (9, vp 1 0), (12, vp 2 0), (15, vp 3 0), (16, vi x24), (17, vb x25), (18, vi x19), (19, vi x26), (20, vp 4 0), (21, vi v33), (84, vb x36)], [(0, bx 58 (qE a3)), (1, bx 28 (qK a4)), (2, bx 26 [ci 0, ci 0]), (3, bx 26 (e_Span x27)), (4, bx 108 [ci a4.X.A, ci a4.X.B, ci a4.Y.A, ci a4.Y.B, ci x19, ci (w64 (x19 + (a3.Lengths.getD x26.toNat default)))])]⟩
def FO (a1 : List Slice) (a2 : List Defect) (a3 : qA) (a4 : Rect) (a5 : Int) (a6 : Int) (x19 : Int) (x24 : Int) (x25 : Bool) (x26 : Int) (x27 : Span) : St :=
 ⟨[(0, vc (tl qF default a1)), (1, vc (tl qG default a2)), (4, vi a5), (5, vi a6), (8, vp 0 0), (9, vp 1 0), (12, vp 2 0), (15, vp 3 0), (16, vi x24), (17, vb x25), (18, vi x19), (19, vi x26)], [(0, bx 58 (qE a3)), (1, bx 28 (qK a4)), (2, bx 26 [ci 0, ci 0]), (3, bx 26 (e_Span x27))]⟩
def qAy (a1 : List Slice) (a2 : List Defect) (a3 : qA) (a4 : Rect) (a5 : Int) (a6 : Int) (x19 : Int) (x41 : Int) (x42 : Bool) (x43 : Span) : St :=
 ⟨[(0, vc (tl qF default a1)), (1, vc (tl qG default a2)), (4, vi a5), (5, vi a6), (8, vp 0 0), (9, vp 1 0), (12, vp 2 0), (15, vp 3 0), (16, vi x41), (17, vb x42), (18, vi x19)], [(0, bx 58 (qE a3)), (1, bx 28 (qK a4)), (2, bx 26 [ci 0, ci 0]), (3, bx 26 (e_Span x43))]⟩
def FE (a1 : List Slice) (a2 : List Defect) (a3 : qA) (a4 : Rect) (a5 : Int) (a6 : Int) (x17 : Int) (x18 : Bool) (x19 : Int) (x20 : Span) : St :=
 ⟨[(0, vc (tl qF default a1)), (1, vc (tl qG default a2)), (4, vi a5), (5, vi a6), (8, vp 0 0), (9, vp 1 0), (12, vp 2 0), (15, vp 3 0), (16, vi x17), (17, vb x18), (18, vi x19)], [(0, bx 58 (qE a3)), (1, bx 28 (qK a4)), (2, bx 26 [ci 0, ci 0]), (3, bx 26 (e_Span x20))]⟩
def qAQ (x46 : Int) (x47 : Bool) (x48 : Span) : St :=
 ⟨[(12, vp 2 0), (15, vp 3 0), (16, vi x46), (17, vb x47)], [(2, bx 26 [ci 0, ci 0]), (3, bx 26 (e_Span x48))]⟩
def qAz (a1 : List Slice) (a2 : List Defect) (a3 : qA) (a4 : Rect) (a5 : Int) (a6 : Int) (x15 : Bool) : St :=
 ⟨[(0, vc (tl qF default a1)), (1, vc (tl qG default a2)), (4, vi a5), (5, vi a6), (8, vp 0 0), (9, vp 1 0), (12, vp 2 0), (36, vb x15)], [(0, bx 58 (qE a3)), (1, bx 28 (qK a4)), (2, bx 26 [ci 0, ci 0])]⟩
theorem qEs (E : Env 0) (a1 : List Slice) (a2 : List Defect) (a3 : qA) (a4 : Rect) (a5 : Int) (a6 : Int) (x19 : Int) : ∀ (n : Nat) (x24 : Int) (x25 : Bool) (x26 : Int) (x27 : Span) (res : Int × Bool × Span), wQ a1 a2 a3 a4 a6 x19 n x24 x25 x26 x27 = some res → HL (kx E 91 0) (nd Tryz.f41 15652) (zW 2 (fun o => qAy a1 a2 a3 a4 a5 a6 x19 o.1 o.2.1 o.2.2) res) n (FO a1 a2 a3 a4 a5 a6 x19 x24 x25 x26 x27) := by
 intro n
 induction n with
 | zero =>
  intro x24 x25 x26 x27 res hm
  cases hm
 | succ n ih =>
  intro x24 x25 x26 x27 res hm
  refine qN ?_
  refine q_sq ?_
  refine q_sq ?_
  refine q_vu [] 4 [] [(50, vb (decide (x26 < ((a3.Lengths.length : Nat) : Int))))] [] [] ?_
  refine q_cn (decide (x26 < ((a3.Lengths.length : Nat) : Int))) (fun b28 => ?_) (fun b28 => ?_)
  ·replace hm := qC b28 hm
   refine q_sk ?_
   refine q_jn (ι := Int × Bool × Span) (fun p => qAS a1 a2 a3 a4 a5 a6 x19 x26 p.1 p.2.1 p.2.2) (fun p => WF x26 (wQ a1 a2 a3 a4 a6 x19 n) p.1 p.2.1 p.2.2 = some res) ?_ ?_
   ·rintro ⟨x38, x39, x40⟩ hm
    show H _ (qAS a1 a2 a3 a4 a5 a6 x19 x26 x38 x39 x40) _ _
    refine q_vu [] 5 [19] [(19, vi (w64 (x26 + 1)))] [] [] ?_
    exact q_hl (FO a1 a2 a3 a4 a5 a6 x19 x38 x39 (w64 (x26 + 1)) x40) (ih x38 x39 (w64 (x26 + 1)) x40 _ hm)
   ·refine q_bk 3 ?_
    refine q_sq ?_
    obtain ⟨g29, hm⟩ := qI hm
    refine q_du [qd 9 (Dir.none) (inb_of g29)] [0, 1, 0, 4, 0, 0, 0, 64, 0, 448, 960, 2016, 4080, 8191, 0, 32767] 4 [50] [(20, vp 4 0)] [] [(4, bx 108 [ci a4.X.A, ci a4.X.B, ci a4.Y.A, ci a4.Y.B, ci x19, ci (w64 (x19 + (a3.Lengths.getD x26.toNat default)))])] ?_
    refine q_sq ?_
    refine q_sq ?_
    obtain ⟨v30, h31, hm⟩ := qD hm
    refine q_vu [qc 4 [67, 68, 69, 70] 5 (qFC a1 a2 a3 (Box.mk a4.X a4.Y (Span.mk x19 (w64 (x19 + (a3.Lengths.getD x26.toNat default))))) v30 h31)] 5 [] [(72, vb (!v30))] [] [] ?_
    refine q_cn (!v30) (fun b32 => ?_) (fun b32 => ?_)
    ·replace hm := qC b32 hm
     refine q_ex 3 ?_
     exact q_J (x24, x25, x27) hm
    ·replace hm := qB b32 hm
     refine q_sk ?_
     refine q_sq ?_
     obtain ⟨v33, h34, hm⟩ := qD hm
     refine q_vu [qc 4 [73, 74, 75, 76] 5 (qGr a2 a3 (Box.mk a4.X a4.Y (Span.mk x19 (w64 (x19 + (a3.Lengths.getD x26.toNat default))))) a6 v33 h34)] 5 [72] [(21, vi v33)] [] [] ?_
     refine q_jn (ι := Bool) (fun p => qAj a1 a2 a3 a4 a5 a6 x19 x24 x25 x26 x27 v33 p) (fun p => DE a3 x19 x24 x25 x26 x27 (wQ a1 a2 a3 a4 a6 x19 n) v33 p = some res) ?_ ?_
     ·rintro x36 hm
      show H _ (qAj a1 a2 a3 a4 a5 a6 x19 x24 x25 x26 x27 v33 x36) _ _
      refine q_cn x36 (fun b37 => ?_) (fun b37 => ?_)
      ·replace hm := qC b37 hm
       refine q_vu [] 5 [16, 17, 20, 21, 84] [(16, vi v33), (17, vb true)] [3, 4] [(3, bx 26 [ci x19, ci (w64 (x19 + (a3.Lengths.getD x26.toNat default)))])] ?_
       exact q_J (v33, true, (Span.mk x19 (w64 (x19 + (a3.Lengths.getD x26.toNat default))))) hm
      ·replace hm := qB b37 hm
       refine q_sk ?_
       exact q_J (x24, x25, x27) hm
     ·rcases Bool.eq_false_or_eq_true (!x25) with b35 | b35
      ·replace hm := qC b35 hm
       refine q_vu [qf 2 b35] 5 [] [(84, vb true)] [] [] ?_
       exact q_J (true) hm
      ·replace hm := qB b35 hm
       refine q_vu [qf 2 b35] 5 [] [(81, vi v33), (82, vi x24), (83, vb (decide (v33 > x24))), (84, vb (decide (v33 > x24)))] [] [] ?_
       exact q_J (decide (v33 > x24)) hm
  ·replace hm := qB b28 hm
   refine q_ex 2 ?_
   obtain rfl := Option.some.inj hm
   exact wE (by kernel_rfl) (by kernel_rfl)
theorem qEf (E : Env 0) (a1 : List Slice) (a2 : List Defect) (a3 : qA) (a4 : Rect) (a5 : Int) (a6 : Int) : ∀ (n : Nat) (x17 : Int) (x18 : Bool) (x19 : Int) (x20 : Span) (res : Int × Bool × Span), JS a1 a2 a3 a4 a5 a6 n x17 x18 x19 x20 = some res → HL (kx E 91 0) (nd Tryz.f41 244) (zW 0 (fun o => qAQ o.1 o.2.1 o.2.2) res) n (FE a1 a2 a3 a4 a5 a6 x17 x18 x19 x20) := by
 intro n
 induction n with
 | zero =>
  intro x17 x18 x19 x20 res hm
  cases hm
 | succ n ih =>
  intro x17 x18 x19 x20 res hm
  refine qN ?_
  refine q_sq ?_
  refine q_sq ?_
  obtain ⟨v21, h22, hm⟩ := qD hm
  refine q_vu [qc 2 [40] 4 (YM a1 v21 h22)] 4 [] [(42, vb (decide (x19 < v21)))] [] [] ?_
  refine q_cn (decide (x19 < v21)) (fun b23 => ?_) (fun b23 => ?_)
  ·replace hm := qC b23 hm
   refine q_sk ?_
   refine q_sq ?_
   refine q_bk 1 ?_
   refine q_sq ?_
   refine q_vu [] 4 [42] [(19, vi 0)] [] [] ?_
   obtain ⟨o44, h45, hm⟩ := qD hm
   refine zM (nd Tryz.f41 15652) 2 (by kernel_rfl) FUEL (fun o => qAy a1 a2 a3 a4 a5 a6 x19 o.1 o.2.1 o.2.2) o44 (q_hl (FO a1 a2 a3 a4 a5 a6 x19 x17 x18 0 x20) (qEs E a1 a2 a3 a4 a5 a6 x19 FUEL x17 x18 0 x20 o44 h45)) ?_
   refine q_vu [] 4 [18] [(18, vi (w64 (x19 + a5)))] [] [] ?_
   exact q_hl (FE a1 a2 a3 a4 a5 a6 o44.1 o44.2.1 (w64 (x19 + a5)) o44.2.2) (ih o44.1 o44.2.1 (w64 (x19 + a5)) o44.2.2 _ hm)
  ·replace hm := qB b23 hm
   refine q_ex 0 ?_
   obtain rfl := Option.some.inj hm
   exact wE (by kernel_rfl) (by kernel_rfl)
theorem qIR (a1 : List Slice) (a2 : List Defect) (a3 : qA) (a4 : Rect) (a5 : Int) (a6 : Int) (r : Span × Int × Bool) (hm : FJ a1 a2 a3 a4 a5 a6 = some r) : CtX Tryz.prog globs 41 0 0 [.one (tl qF default a1), .one (tl qG default a2), .agg (qE a3), .agg (qK a4), .one (ci a5), .one (ci a6)] [] (qJy r) (qJL r) := by
 unfold FJ at hm
 refine q_E Tryz.f41 91 fun E => ?_
 refine q_sq ?_
 refine q_vn [] 0 ⟨[(0, vc (tl qF default a1)), (1, vc (tl qG default a2)), (4, vi a5), (5, vi a6), (8, vp 0 0), (9, vp 1 0), (12, vp 2 0)], [(0, bx 58 (qE a3)), (1, bx 28 (qK a4)), (2, bx 26 [ci 0, ci 0])]⟩ ?_
 refine q_sq ?_
 refine q_jn (ι := Bool) (fun p => qAz a1 a2 a3 a4 a5 a6 p) (fun p => PE a1 a2 a3 a4 a5 a6 p = some r) ?_ ?_
 ·rintro x15 hm
  show H _ (qAz a1 a2 a3 a4 a5 a6 x15) _ _
  refine q_cn x15 (fun b16 => ?_) (fun b16 => ?_)
  ·replace hm := qC b16 hm
   refine q_sq ?_
   refine q_vu [] 3 [0, 1, 4, 5, 8, 9, 36] [(13, vi 0), (14, vb false)] [0, 1] [] ?_
   obtain rfl := Option.some.inj hm
   refine q_rt ?_
   exact q_rm
  ·replace hm := qB b16 hm
   refine q_sk ?_
   refine q_sq ?_
   refine q_vu [] 3 [36] [(15, vp 3 0), (16, vi 0), (17, vb false)] [] [(3, bx 26 [ci 0, ci 0])] ?_
   refine q_sq ?_
   refine q_sq ?_
   refine q_vu [] 4 [] [(18, vi 0)] [] [] ?_
   obtain ⟨o49, h50, hm⟩ := qD hm
   refine zM (nd Tryz.f41 244) 0 (by kernel_rfl) FUEL (fun o => qAQ o.1 o.2.1 o.2.2) o49 (q_hl (FE a1 a2 a3 a4 a5 a6 0 false 0 (Span.mk 0 0)) (qEf E a1 a2 a3 a4 a5 a6 FUEL 0 false 0 (Span.mk 0 0) o49 h50)) ?_
   refine q_sq ?_
   refine q_vn [] 4 ⟨[(12, vp 2 0), (13, vi o49.1), (14, vb o49.2.1)], [(2, bx 26 (e_Span o49.2.2))]⟩ ?_
   obtain rfl := Option.some.inj hm
   refine q_rt ?_
   exact q_rm
 ·obtain ⟨v7, h8, hm⟩ := qD hm
  rcases Bool.eq_false_or_eq_true (!v7) with b9 | b9
  ·replace hm := qC b9 hm
   refine q_vu [qk 1 [22] 3 ⟨[(22, vi a5)], []⟩ (qZ a5 1 20000 v7 h8), qf 3 b9] 3 [] [(36, vb true)] [] [] ?_
   exact q_J (true) hm
  ·replace hm := qB b9 hm
   obtain ⟨v10, h11, hm⟩ := qD hm
   rcases Bool.eq_false_or_eq_true (!v10) with b12 | b12
   ·replace hm := qC b12 hm
    refine q_vu [qk 1 [22] 3 ⟨[(22, vi a5)], []⟩ (qZ a5 1 20000 v7 h8), qf 3 b9, qk 5 [25, 26] 3 ⟨[(25, vb false), (26, vi a6)], []⟩ (qZ a6 0 1000000 v10 h11), qf 8 b12] 3 [] [(36, vb true)] [] [] ?_
    exact q_J (true) hm
   ·replace hm := qB b12 hm
    obtain ⟨v13, h14, hm⟩ := qD hm
    refine q_vu [qk 1 [22] 3 ⟨[(22, vi a5)], []⟩ (qZ a5 1 20000 v7 h8), qf 3 b9, qk 5 [25, 26] 3 ⟨[(25, vb false), (26, vi a6)], []⟩ (qZ a6 0 1000000 v10 h11), qf 8 b12, qk 12 [30, 31, 32, 33] 3 ⟨[(30, vb false), (31, vc (tl qF default a1)), (32, vc (tl qG default a2)), (33, va (qE a3))], []⟩ (qG9 a1 a2 a3 v13 h14)] 3 [] [(36, vb (!v13))] [] [] ?_
    exact q_J (!v13) hm
def qGy (r : Int) : V := vi r
def qGa (r : Int) : List (Nat × (Nat × O)) := []
def AY (a1 : List Slice) (a2 : Box) (x11 : Int) (x12 : Int) (x20 : Int) : St :=
 ⟨[(0, vc (tl qF default a1)), (3, vp 0 0), (5, vi x20), (6, vi x11), (7, vi x12)], [(0, bx 108 (zA a2))]⟩
def VY (a1 : List Slice) (a2 : Box) (x10 : Int) (x11 : Int) (x12 : Int) : St :=
 ⟨[(0, vc (tl qF default a1)), (3, vp 0 0), (5, vi x10), (6, vi x11), (7, vi x12)], [(0, bx 108 (zA a2))]⟩
def EU (x21 : Int) : St :=
 ⟨[(5, vi x21)], []⟩
def AV (a1 : List Slice) (a2 : Box) (x8 : Bool) : St :=
 ⟨[(0, vc (tl qF default a1)), (3, vp 0 0), (39, vb x8)], [(0, bx 108 (zA a2))]⟩
theorem qCE (E : Env 0) (a1 : List Slice) (a2 : Box) : ∀ (n : Nat) (x10 : Int) (x11 : Int) (x12 : Int) (res : Int), jR a1 a2 n x10 x11 x12 = some res → HL (kx E 88 0) (nd Tryz.f71 244) (zW 0 (fun o => EU o) res) n (VY a1 a2 x10 x11 x12) := by
 intro n
 induction n with
 | zero =>
  intro x10 x11 x12 res hm
  cases hm
 | succ n ih =>
  intro x10 x11 x12 res hm
  refine qN ?_
  refine q_sq ?_
  refine q_sq ?_
  refine q_vu [] 1 [] [(43, vb (decide (x12 < ((a1.length : Nat) : Int))))] [] [] ?_
  refine q_cn (decide (x12 < ((a1.length : Nat) : Int))) (fun b13 => ?_) (fun b13 => ?_)
  ·replace hm := qC b13 hm
   refine q_sk ?_
   refine q_sq ?_
   refine q_bk 1 ?_
   refine q_sq ?_
   refine q_vu [] 1 [43] [(8, vp 1 0)] [] [(1, bx 26 [ci (imax a2.Z.A 0), ci (imin a2.Z.B 20000)])] ?_
   refine q_sq ?_
   obtain ⟨g14, hm⟩ := qI hm
   obtain ⟨v15, h16, hm⟩ := qD hm
   refine q_du [qd 4 (Dir.none) (inb_of g14), qc 7 [55, 56, 61] 2 (qCm (Span.mk (imax a2.Z.A 0) (imin a2.Z.B 20000)) x11 ((a1.getD x12.toNat default).Len) v15 h16)] [0, 0, 0, 0, 12, 28, 60, 127, 255] 2 [8] [(9, vi v15)] [1] [] ?_
   refine q_jn (ι := Int) (fun p => AY a1 a2 x11 x12 p) (fun p => RG a1 x11 x12 (jR a1 a2 n) p = some res) ?_ ?_
   ·rintro x20 hm
    show H _ (AY a1 a2 x11 x12 x20) _ _
    refine q_vu [qd 3 (Dir.none) (inb_of g14)] 2 [6] [(6, vi (w64 (x11 + ((a1.getD x12.toNat default).Len))))] [] [] ?_
    refine q_vu [] 2 [7] [(7, vi (w64 (x12 + 1)))] [] [] ?_
    exact q_hl (VY a1 a2 x20 (w64 (x11 + ((a1.getD x12.toNat default).Len))) (w64 (x12 + 1))) (ih x20 (w64 (x11 + ((a1.getD x12.toNat default).Len))) (w64 (x12 + 1)) _ hm)
   ·refine q_sq ?_
    refine q_vu [] 2 [] [(64, vb (decide (v15 > 0)))] [] [] ?_
    refine q_cn (decide (v15 > 0)) (fun b17 => ?_) (fun b17 => ?_)
    ·replace hm := qC b17 hm
     obtain ⟨v18, h19, hm⟩ := qD hm
     refine q_du [qd 4 (Dir.none) (inb_of g14), qc 12 [71, 76] 2 (qAK ((a1.getD x12.toNat default).Sec) (Rect.mk a2.X a2.Y) v18 h19)] [0, 0, 0, 0, 12, 28, 60, 0, 128, 0, 512, 1920, 4092, 8190, 16383, 32767] 2 [5, 9, 64] [(5, vi (w64 (x10 + (w64 (v15 * v18)))))] [] [] ?_
     exact q_J (w64 (x10 + (w64 (v15 * v18)))) hm
    ·replace hm := qB b17 hm
     refine q_sk ?_
     exact q_J (x10) hm
  ·replace hm := qB b13 hm
   refine q_ex 0 ?_
   obtain rfl := Option.some.inj hm
   exact wE (by kernel_rfl) (by kernel_rfl)
theorem qFP (a1 : List Slice) (a2 : Box) (r : Int) (hm : TA a1 a2 = some r) : CtX Tryz.prog globs 71 0 0 [.one (tl qF default a1), .agg (zA a2)] [] (qGy r) (qGa r) := by
 unfold TA at hm
 refine q_E Tryz.f71 88 fun E => ?_
 refine q_sq ?_
 refine q_vn [] 0 ⟨[(0, vc (tl qF default a1)), (3, vp 0 0)], [(0, bx 108 (zA a2))]⟩ ?_
 refine q_sq ?_
 refine q_jn (ι := Bool) (fun p => AV a1 a2 p) (fun p => QD a1 a2 p = some r) ?_ ?_
 ·rintro x8 hm
  show H _ (AV a1 a2 x8) _ _
  refine q_cn x8 (fun b9 => ?_) (fun b9 => ?_)
  ·replace hm := qC b9 hm
   refine q_sq ?_
   refine q_vn [] 1 ⟨[(4, vi 0)], []⟩ ?_
   obtain rfl := Option.some.inj hm
   refine q_rt ?_
   exact q_rm
  ·replace hm := qB b9 hm
   refine q_sk ?_
   refine q_sq ?_
   refine q_vu [] 1 [39] [(5, vi 0), (6, vi 0)] [] [] ?_
   refine q_sq ?_
   refine q_sq ?_
   refine q_vu [] 1 [] [(7, vi 0)] [] [] ?_
   obtain ⟨o22, h23, hm⟩ := qD hm
   refine zM (nd Tryz.f71 244) 0 (by kernel_rfl) FUEL (fun o => EU o) o22 (q_hl (VY a1 a2 0 0 0) (qCE E a1 a2 FUEL 0 0 0 o22 h23)) ?_
   refine q_sq ?_
   refine q_vn [] 1 ⟨[(4, vi o22)], []⟩ ?_
   obtain rfl := Option.some.inj hm
   refine q_rt ?_
   exact q_rm
 ·obtain ⟨v3, h4, hm⟩ := qD hm
  rcases Bool.eq_false_or_eq_true (v3 != 0) with b5 | b5
  ·replace hm := qC b5 hm
   refine q_vu [qc 1 [10] 1 (wT a1 v3 h4), qf 3 b5] 1 [] [(39, vb true)] [] [] ?_
   exact q_J (true) hm
  ·replace hm := qB b5 hm
   rcases Bool.eq_false_or_eq_true (decide (a2.X.A ≥ a2.X.B)) with b6 | b6
   ·replace hm := qC b6 hm
    refine q_vu [qc 1 [10] 1 (wT a1 v3 h4), qf 3 b5, qf 12 b6] 1 [] [(39, vb true)] [] [] ?_
    exact q_J (true) hm
   ·replace hm := qB b6 hm
    rcases Bool.eq_false_or_eq_true (decide (a2.Y.A ≥ a2.Y.B)) with b7 | b7
    ·replace hm := qC b7 hm
     refine q_vu [qc 1 [10] 1 (wT a1 v3 h4), qf 3 b5, qf 12 b6, qf 21 b7] 1 [] [(39, vb true)] [] [] ?_
     exact q_J (true) hm
    ·replace hm := qB b7 hm
     refine q_vu [qc 1 [10] 1 (wT a1 v3 h4), qf 3 b5, qf 12 b6, qf 21 b7] 1 [] [(39, vb (decide (a2.Z.A ≥ a2.Z.B)))] [] [] ?_
     exact q_J (decide (a2.Z.A ≥ a2.Z.B)) hm
set_option maxRecDepth 100000
def qIz (r : Int) : V := vi r
def qIt (r : Int) : List (Nat × (Nat × O)) := []
theorem UH (a1 : List Slice) (a2 : Rect) (a3 : Span) (r : Int) (hm : WT a1 a2 a3 = some r) : CtX Tryz.prog globs 42 0 0 [.one (tl qF default a1), .agg (qK a2), .agg (e_Span a3)] [] (qIz r) (qIt r) := by
 unfold WT at hm
 refine q_E Tryz.f42 15 fun E => ?_
 refine q_sq ?_
 refine q_vn [] 0 ⟨[(0, vc (tl qF default a1)), (4, vp 0 0), (5, vp 1 0)], [(0, bx 28 (qK a2)), (1, bx 26 (e_Span a3))]⟩ ?_
 refine q_sq ?_
 obtain ⟨v4, h5, hm⟩ := qD hm
 refine q_vn [qc 7 [7, 13] 2 (qFP a1 (Box.mk a2.X a2.Y a3) v4 h5)] 2 ⟨[(6, vi v4)], []⟩ ?_
 obtain rfl := Option.some.inj hm
 refine q_rt ?_
 exact q_rm
open Go.Proofs
set_option maxHeartbeats 4000000
set_option maxRecDepth 100000
def qGh (r : Int) : V := vi r
def qGN (r : Int) : List (Nat × (Nat × O)) := []
theorem qAV (a1 : List Slice) (a2 : Rect) (r : Int) (hm : XD a1 a2 = some r) : CtX Tryz.prog globs 22 0 0 [.one (tl qF default a1), .agg (qK a2)] [] (qGh r) (qGN r) := by
 unfold XD at hm
 refine q_E Tryz.f22 11 fun E => ?_
 refine q_sq ?_
 refine q_vn [] 0 ⟨[(0, vc (tl qF default a1)), (3, vp 0 0)], [(0, bx 28 (qK a2))]⟩ ?_
 refine q_sq ?_
 obtain ⟨v3, h4, hm⟩ := qD hm
 obtain ⟨v5, h6, hm⟩ := qD hm
 refine q_dn [qc 3 [7] 1 (YM a1 v3 h4), qc 5 [5, 6, 9] 1 (UH a1 a2 (Span.mk 0 v3) v5 h6)] [0, 0, 0, 4, 12, 31, 63] 1 ⟨[(4, vi v5)], []⟩ ?_
 obtain rfl := Option.some.inj hm
 refine q_rt ?_
 exact q_rm
def qKl (r : Int) : V := vi r
def qKb (r : Int) : List (Nat × (Nat × O)) := []
theorem qIk (a1 : List Slice) (a2 : List Defect) (a3 : qA) (a4 : Rect) (a5 : Saw) (a6 : Rates) (r : Int) (hm : FX a1 a2 a3 a4 a5 a6 = some r) : CtX Tryz.prog globs 20 0 0 [.one (tl qF default a1), .one (tl qG default a2), .agg (qE a3), .agg (qK a4), .agg (wA a5), .agg (qW a6)] [] (qKl r) (qKb r) := by
 unfold FX at hm
 refine q_E Tryz.f20 80 fun E => ?_
 refine q_sq ?_
 refine q_vn [] 0 ⟨[(0, vc (tl qF default a1)), (1, vc (tl qG default a2)), (8, vp 0 0), (9, vp 1 0), (10, vp 2 0), (11, vp 3 0)], [(0, bx 58 (qE a3)), (1, bx 28 (qK a4)), (2, bx 30 (wA a5)), (3, bx 32 (qW a6))]⟩ ?_
 refine q_sq ?_
 obtain ⟨v7, h8, hm⟩ := qD hm
 refine q_vu [qc 8 [18, 19, 20, 21, 23, 25] 4 (qIR a1 a2 a3 a4 a5.Step a6.Fine v7 h8)] 4 [1, 8] [(13, vp 4 0), (14, vi v7.2.1), (15, vb v7.2.2)] [0] [(4, bx 26 (e_Span v7.1))] ?_
 refine q_sq ?_
 refine q_sq ?_
 refine q_vu [] 5 [15] [(31, vb (!v7.2.2))] [] [] ?_
 refine q_cn (!v7.2.2) (fun b9 => ?_) (fun b9 => ?_)
 ·replace hm := qC b9 hm
  refine q_sq ?_
  refine q_vn [] 5 ⟨[(12, vi (-1))], []⟩ ?_
  obtain rfl := Option.some.inj hm
  refine q_rt ?_
  exact q_rm
 ·replace hm := qB b9 hm
  refine q_sk ?_
  refine q_sq ?_
  obtain ⟨v10, h11, hm⟩ := qD hm
  obtain ⟨v12, h13, hm⟩ := qD hm
  obtain ⟨v14, h15, hm⟩ := qD hm
  refine q_du [qc 11 [32, 33, 42] 5 (UH a1 a4 (Span.mk (imax 0 (w64 (v7.1.A - a5.Trim))) v7.1.A) v10 h11), qc 22 [53] 5 (YM a1 v12 h13), qc 25 [44, 45, 56] 5 (UH a1 a4 (Span.mk v7.1.B (imin (w64 (v7.1.B + a5.Trim)) v12)) v14 h15)] [0, 0, 0, 4, 0, 16, 60, 124, 0, 256, 1020, 2047, 0, 0, 0, 16384, 0, 65536, 0, 262144, 983040, 0, 2101247, 8327167, 16764927, 33554431, 67108863, 134217727] 5 [10, 31] [(16, vi (w64 (v10 + v14)))] [2] [] ?_
  refine q_sq ?_
  obtain ⟨v16, h17, hm⟩ := qD hm
  obtain ⟨v18, h19, hm⟩ := qD hm
  refine q_dn [qc 11 [68, 69] 5 (qAV a1 a4 v16 h17), qc 15 [71, 72, 73] 5 (UH a1 a4 v7.1 v18 h19)] [0, 1, 0, 4, 0, 28, 63, 0, 128, 0, 0, 1536, 0, 0, 0, 32256, 65024, 0, 261632, 524160, 1048575, 2097151] 5 ⟨[(12, vi (w64 ((w64 ((w64 (1000000 * v7.2.1)) + (w64 (a6.Dust * (w64 (v10 + v14)))))) + (w64 (a6.Chip * (w64 ((w64 (v16 - v18)) - (w64 (v10 + v14)))))))))], []⟩ ?_
  obtain rfl := Option.some.inj hm
  refine q_rt ?_
  exact q_rm
set_option maxRecDepth 100000
def qIn (r : Int) : V := vi r
def qId (r : Int) : List (Nat × (Nat × O)) := []
def OJ (x24 : Bool) : St :=
 ⟨[(42, vb x24)], []⟩
def CP (a2 : Rates) (x14 : Bool) : St :=
 ⟨[(3, vp 1 0), (26, vb x14)], [(1, bx 32 (qW a2))]⟩
theorem qGp (a1 : Saw) (a2 : Rates) (r : Int) (hm : GG a1 a2 = some r) : CtX Tryz.prog globs 38 0 0 [.agg (wA a1), .agg (qW a2)] [] (qIn r) (qId r) := by
 unfold GG at hm
 refine q_E Tryz.f38 43 fun E => ?_
 refine q_sq ?_
 refine q_vn [] 0 ⟨[(2, vp 0 0), (3, vp 1 0)], [(0, bx 30 (wA a1)), (1, bx 32 (qW a2))]⟩ ?_
 refine q_sq ?_
 refine q_jn (ι := Bool) (fun p => CP a2 p) (fun p => WV a2 p = some r) ?_ ?_
 ·rintro x14 hm
  show H _ (CP a2 x14) _ _
  refine q_cn x14 (fun b15 => ?_) (fun b15 => ?_)
  ·replace hm := qC b15 hm
   refine q_sq ?_
   refine q_vn [] 2 ⟨[(4, vi 9)], []⟩ ?_
   obtain rfl := Option.some.inj hm
   refine q_rt ?_
   exact q_rm
  ·replace hm := qB b15 hm
   refine q_sk ?_
   refine q_sq ?_
   refine q_jn (ι := Bool) (fun p => OJ p) (fun p => XW p = some r) ?_ ?_
   ·rintro x24 hm
    show H _ (OJ x24) _ _
    refine q_cn x24 (fun b25 => ?_) (fun b25 => ?_)
    ·replace hm := qC b25 hm
     refine q_sq ?_
     refine q_vn [] 2 ⟨[(4, vi 9)], []⟩ ?_
     obtain rfl := Option.some.inj hm
     refine q_rt ?_
     exact q_rm
    ·replace hm := qB b25 hm
     refine q_sk ?_
     refine q_sq ?_
     refine q_vn [] 2 ⟨[(4, vi 0)], []⟩ ?_
     obtain rfl := Option.some.inj hm
     refine q_rt ?_
     exact q_rm
   ·obtain ⟨v16, h17, hm⟩ := qD hm
    rcases Bool.eq_false_or_eq_true (!v16) with b18 | b18
    ·replace hm := qC b18 hm
     refine q_vn [qk 2 [28] 2 ⟨[(28, vi a2.Chip)], []⟩ (qZ a2.Chip 0 1000 v16 h17), qf 4 b18] 2 ⟨[(42, vb true)], []⟩ ?_
     exact q_J (true) hm
    ·replace hm := qB b18 hm
     obtain ⟨v19, h20, hm⟩ := qD hm
     rcases Bool.eq_false_or_eq_true (!v19) with b21 | b21
     ·replace hm := qC b21 hm
      refine q_vn [qk 2 [28] 2 ⟨[(28, vi a2.Chip)], []⟩ (qZ a2.Chip 0 1000 v16 h17), qf 4 b18, qk 7 [31, 33] 2 ⟨[(31, vb false), (33, vi a2.Dust)], []⟩ (qZ a2.Dust 0 1000 v19 h20), qf 10 b21] 2 ⟨[(42, vb true)], []⟩ ?_
      exact q_J (true) hm
     ·replace hm := qB b21 hm
      obtain ⟨v22, h23, hm⟩ := qD hm
      refine q_vn [qk 2 [28] 2 ⟨[(28, vi a2.Chip)], []⟩ (qZ a2.Chip 0 1000 v16 h17), qf 4 b18, qk 7 [31, 33] 2 ⟨[(31, vb false), (33, vi a2.Dust)], []⟩ (qZ a2.Dust 0 1000 v19 h20), qf 10 b21, qk 13 [37, 39] 2 ⟨[(37, vb false), (39, vi a2.Fine)], []⟩ (qZ a2.Fine 0 1000000 v22 h23)] 2 ⟨[(42, vb (!v22))], []⟩ ?_
      exact q_J (!v22) hm
 ·obtain ⟨v3, h4, hm⟩ := qD hm
  rcases Bool.eq_false_or_eq_true (!v3) with b5 | b5
  ·replace hm := qC b5 hm
   refine q_vu [qk 2 [6] 2 ⟨[(6, vi a1.Kerf)], []⟩ (qZ a1.Kerf 0 20 v3 h4), qf 4 b5] 2 [2] [(26, vb true)] [0] [] ?_
   exact q_J (true) hm
  ·replace hm := qB b5 hm
   obtain ⟨v6, h7, hm⟩ := qD hm
   rcases Bool.eq_false_or_eq_true (!v6) with b8 | b8
   ·replace hm := qC b8 hm
    refine q_vu [qk 2 [6] 2 ⟨[(6, vi a1.Kerf)], []⟩ (qZ a1.Kerf 0 20 v3 h4), qf 4 b5, qk 7 [9, 11] 2 ⟨[(9, vb false), (11, vi a1.Trim)], []⟩ (qZ a1.Trim 0 20 v6 h7), qf 10 b8] 2 [2] [(26, vb true)] [0] [] ?_
    exact q_J (true) hm
   ·replace hm := qB b8 hm
    obtain ⟨v9, h10, hm⟩ := qD hm
    rcases Bool.eq_false_or_eq_true (!v9) with b11 | b11
    ·replace hm := qC b11 hm
     refine q_vu [qk 2 [6] 2 ⟨[(6, vi a1.Kerf)], []⟩ (qZ a1.Kerf 0 20 v3 h4), qf 4 b5, qk 7 [9, 11] 2 ⟨[(9, vb false), (11, vi a1.Trim)], []⟩ (qZ a1.Trim 0 20 v6 h7), qf 10 b8, qk 13 [15, 17] 2 ⟨[(15, vb false), (17, vi a1.Pitch)], []⟩ (qZ a1.Pitch 1 2000 v9 h10), qf 16 b11] 2 [2] [(26, vb true)] [0] [] ?_
     exact q_J (true) hm
    ·replace hm := qB b11 hm
     obtain ⟨v12, h13, hm⟩ := qD hm
     refine q_vu [qk 2 [6] 2 ⟨[(6, vi a1.Kerf)], []⟩ (qZ a1.Kerf 0 20 v3 h4), qf 4 b5, qk 7 [9, 11] 2 ⟨[(9, vb false), (11, vi a1.Trim)], []⟩ (qZ a1.Trim 0 20 v6 h7), qf 10 b8, qk 13 [15, 17] 2 ⟨[(15, vb false), (17, vi a1.Pitch)], []⟩ (qZ a1.Pitch 1 2000 v9 h10), qf 16 b11, qk 19 [21, 23] 2 ⟨[(21, vb false), (23, vi a1.Step)], []⟩ (qZ a1.Step 1 20000 v12 h13)] 2 [2] [(26, vb (!v12))] [0] [] ?_
     exact q_J (!v12) hm
open Go.Proofs
set_option maxHeartbeats 4000000
set_option maxRecDepth 100000
def qHe (r : Bool) : V := vb r
def qGW (r : Bool) : List (Nat × (Nat × O)) := []
def AI (x5 : Bool) : St :=
 ⟨[(2, vb x5)], []⟩
theorem NR (a1 : Span) (r : Bool) (hm : XV a1 = some r) : CtX Tryz.prog globs 39 0 0 [.agg (e_Span a1)] [] (qHe r) (qGW r) := by
 unfold XV at hm
 refine q_E Tryz.f39 21 fun E => ?_
 refine q_sq ?_
 refine q_vn [] 0 ⟨[(1, vp 0 0)], [(0, bx 26 (e_Span a1))]⟩ ?_
 refine q_jn (ι := Bool) (fun p => AI p) (fun p => ZR p = some r) ?_ ?_
 ·rintro x5 hm
  show H _ (AI x5) _ _
  obtain rfl := Option.some.inj hm
  refine q_rt ?_
  exact q_rm
 ·rcases Bool.eq_false_or_eq_true (decide (a1.A < (-600))) with b2 | b2
  ·replace hm := qC b2 hm
   refine q_vn [qf 3 b2] 1 ⟨[(2, vb true)], []⟩ ?_
   exact q_J (true) hm
  ·replace hm := qB b2 hm
   rcases Bool.eq_false_or_eq_true (decide (a1.A > 600)) with b3 | b3
   ·replace hm := qC b3 hm
    refine q_vn [qf 3 b2, qf 8 b3] 1 ⟨[(2, vb true)], []⟩ ?_
    exact q_J (true) hm
   ·replace hm := qB b3 hm
    rcases Bool.eq_false_or_eq_true (decide (a1.B < (-600))) with b4 | b4
    ·replace hm := qC b4 hm
     refine q_vn [qf 3 b2, qf 8 b3, qf 13 b4] 1 ⟨[(2, vb true)], []⟩ ?_
     exact q_J (true) hm
    ·replace hm := qB b4 hm
     refine q_vn [qf 3 b2, qf 8 b3, qf 13 b4] 1 ⟨[(2, vb (decide (a1.B > 600)))], []⟩ ?_
     exact q_J (decide (a1.B > 600)) hm
end Saw
end Go.SL
