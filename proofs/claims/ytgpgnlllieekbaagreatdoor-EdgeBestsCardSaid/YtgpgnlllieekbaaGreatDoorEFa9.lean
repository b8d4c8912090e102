import Derived.Test.YtgpgnlllieekbaaGreatDoorEBase
import Derived.Test.YtgpgnlllieekbaaGreatDoorEFa8
import Derived.Test.YtgpgnlllieekbaaGreatDoorEFa7
import Derived.Test.YtgpgnlllieekbaaGreatDoorEFa1
set_option linter.unusedVariables false
set_option linter.unusedSimpArgs false
namespace Go.SL
namespace Saw
open Go.Proofs
set_option maxHeartbeats 4000000
set_option maxRecDepth 100000
def QQ (r : Int) : V := vi r
def QE (r : Int) : List (Nat × (Nat × O)) := []
def DZ (a1 : qC) (x5 : Int) (x14 : Bool) : St :=
 ⟨[(1, vp 0 0), (3, vi x5), (56, vb x14)], [(0, bx 58 (qE a1))]⟩
def DX (a1 : qC) (x5 : Int) (x9 : Bool) : St :=
 ⟨[(1, vp 0 0), (3, vi x5), (40, vb x9)], [(0, bx 58 (qE a1))]⟩
def YO (a1 : qC) (x5 : Int) : St :=
 ⟨[(1, vp 0 0), (3, vi x5)], [(0, bx 58 (qE a1))]⟩
def DV (a1 : qC) : St :=
 ⟨[(1, vp 0 0)], [(0, bx 58 (qE a1))]⟩
def DY (a1 : qC) (x20 : Int) (x24 : Bool) : St :=
 ⟨[(1, vp 0 0), (4, vi x20), (77, vb x24)], [(0, bx 58 (qE a1))]⟩
def YN (a1 : qC) (x20 : Int) : St :=
 ⟨[(1, vp 0 0), (4, vi x20)], [(0, bx 58 (qE a1))]⟩
def DW : St :=
 ⟨[], []⟩
theorem qBk (E : Env 0) (a1 : qC) : ∀ (n : Nat) (x5 : Int) (res : Int ⊕ Unit), zR a1 n x5 = some res → HL (kx E 78 0) (nd Tryz.f65 500) (wC 0 (fun o => DV a1) (fun v st => RetQ Tryz.prog Tryz.f65 (QQ v) (QE v) .ret st) res) n (YO a1 x5) := by
 intro n
 induction n with
 | zero =>
  intro x5 res hm
  cases hm
 | succ n ih =>
  intro x5 res hm
  refine qO ?_
  refine q_sq ?_
  refine q_sq ?_
  refine q_vu [] 1 [] [(24, vb (decide (x5 < ((a1.Lengths.length : Nat) : Int))))] [] [] ?_
  refine q_cn (decide (x5 < ((a1.Lengths.length : Nat) : Int))) (fun b6 => ?_) (fun b6 => ?_)
  ·replace hm := qB b6 hm
   refine q_sk ?_
   refine q_sq ?_
   refine q_bk 1 ?_
   refine q_sq ?_
   refine q_jn (ι := Bool) (fun p => DX a1 x5 p) (fun p => WH a1 x5 (zR a1 n) p = some res) ?_ ?_
   ·rintro x9 hm
    show H _ (DX a1 x5 x9) _ _
    refine q_cn x9 (fun b10 => ?_) (fun b10 => ?_)
    ·replace hm := qB b10 hm
     refine q_sq ?_
     refine q_vn [] 1 ⟨[(2, vi 9)], []⟩ ?_
     obtain rfl := Option.some.inj hm
     refine q_rt ?_
     refine qU 9 ?_
     exact q_rm
    ·replace hm := qA b10 hm
     refine q_sk ?_
     refine q_jn (ι := Bool) (fun p => DZ a1 x5 p) (fun p => WS x5 (zR a1 n) p = some res) ?_ ?_
     ·rintro x14 hm
      show H _ (DZ a1 x5 x14) _ _
      refine q_cn x14 (fun b15 => ?_) (fun b15 => ?_)
      ·replace hm := qB b15 hm
       refine q_sq ?_
       refine q_vn [] 1 ⟨[(2, vi 11)], []⟩ ?_
       obtain rfl := Option.some.inj hm
       refine q_rt ?_
       refine qU 11 ?_
       exact q_rm
      ·replace hm := qA b15 hm
       refine q_sk ?_
       refine q_vu [] 1 [3, 56] [(3, vi (w64 (x5 + 1)))] [] [] ?_
       exact q_hl (YO a1 (w64 (x5 + 1))) (ih (w64 (x5 + 1)) _ hm)
     ·rcases Bool.eq_false_or_eq_true (decide (x5 > 0)) with b11 | b11
      ·replace hm := qB b11 hm
       obtain ⟨g12, hm⟩ := qI hm
       obtain ⟨g13, hm⟩ := qI hm
       refine q_du [qf 2 b11, qd 6 (Dir.none) (inb_of g12), qd 12 (Dir.none) (inb_of g13)] [0, 1, 3, 7, 15, 7, 63, 127, 7, 263, 7, 1031, 3847, 7943, 16383, 32767] 1 [40] [(44, vp 0 5), (45, vc (tl e_i64 default a1.Lengths)), (46, vi x5), (47, vc (.lptr (e_i64 (a1.Lengths.getD x5.toNat default)))), (48, vi (a1.Lengths.getD x5.toNat default)), (49, vp 0 5), (50, vc (tl e_i64 default a1.Lengths)), (51, vi x5), (52, vi (w64 (x5 - 1))), (53, vc (.lptr (e_i64 (a1.Lengths.getD (w64 (x5 - 1)).toNat default)))), (54, vi (a1.Lengths.getD (w64 (x5 - 1)).toNat default)), (55, vb (decide ((a1.Lengths.getD x5.toNat default) ≤ (a1.Lengths.getD (w64 (x5 - 1)).toNat default)))), (56, vb (decide ((a1.Lengths.getD x5.toNat default) ≤ (a1.Lengths.getD (w64 (x5 - 1)).toNat default))))] [] [] ?_
       exact q_J (decide ((a1.Lengths.getD x5.toNat default) ≤ (a1.Lengths.getD (w64 (x5 - 1)).toNat default))) hm
      ·replace hm := qA b11 hm
       refine q_du [qf 2 b11] [0, 1, 3, 7, 15, 7, 63, 127, 7, 263, 7, 1031, 3847, 7943, 16383, 32767] 1 [40] [(56, vb false)] [] [] ?_
       exact q_J (false) hm
   ·obtain ⟨g7, hm⟩ := qI hm
    rcases Bool.eq_false_or_eq_true (decide ((a1.Lengths.getD x5.toNat default) < 100)) with b8 | b8
    ·replace hm := qB b8 hm
     refine q_vu [qd 3 (Dir.none) (inb_of g7), qf 6 b8] 1 [24] [(40, vb true)] [] [] ?_
     exact q_J (true) hm
    ·replace hm := qA b8 hm
     refine q_vu [qd 3 (Dir.none) (inb_of g7), qf 6 b8, qd 10 (Dir.none) (inb_of g7)] 1 [24] [(34, vp 0 5), (35, vc (tl e_i64 default a1.Lengths)), (36, vi x5), (37, vc (.lptr (e_i64 (a1.Lengths.getD x5.toNat default)))), (38, vi (a1.Lengths.getD x5.toNat default)), (39, vb (decide ((a1.Lengths.getD x5.toNat default) > 20000))), (40, vb (decide ((a1.Lengths.getD x5.toNat default) > 20000)))] [] [] ?_
     exact q_J (decide ((a1.Lengths.getD x5.toNat default) > 20000)) hm
  ·replace hm := qA b6 hm
   refine q_ex 0 ?_
   obtain rfl := Option.some.inj hm
   exact wF () (by kernel_rfl) (by kernel_rfl)
theorem qA8 (E : Env 0) (a1 : qC) : ∀ (n : Nat) (x20 : Int) (res : Int ⊕ Unit), wA a1 n x20 = some res → HL (kx E 78 0) (nd Tryz.f65 1012) (wC 2 (fun o => DW) (fun v st => RetQ Tryz.prog Tryz.f65 (QQ v) (QE v) .ret st) res) n (YN a1 x20) := by
 intro n
 induction n with
 | zero =>
  intro x20 res hm
  cases hm
 | succ n ih =>
  intro x20 res hm
  refine qO ?_
  refine q_sq ?_
  refine q_sq ?_
  refine q_vu [] 1 [] [(61, vb (decide (x20 < ((a1.Prices.length : Nat) : Int))))] [] [] ?_
  refine q_cn (decide (x20 < ((a1.Prices.length : Nat) : Int))) (fun b21 => ?_) (fun b21 => ?_)
  ·replace hm := qB b21 hm
   refine q_sk ?_
   refine q_sq ?_
   refine q_bk 3 ?_
   refine q_jn (ι := Bool) (fun p => DY a1 x20 p) (fun p => WI x20 (wA a1 n) p = some res) ?_ ?_
   ·rintro x24 hm
    show H _ (DY a1 x20 x24) _ _
    refine q_cn x24 (fun b25 => ?_) (fun b25 => ?_)
    ·replace hm := qB b25 hm
     refine q_sq ?_
     refine q_vn [] 1 ⟨[(2, vi 9)], []⟩ ?_
     obtain rfl := Option.some.inj hm
     refine q_rt ?_
     refine qU 9 ?_
     exact q_rm
    ·replace hm := qA b25 hm
     refine q_sk ?_
     refine q_vu [] 1 [4, 77] [(4, vi (w64 (x20 + 1)))] [] [] ?_
     exact q_hl (YN a1 (w64 (x20 + 1))) (ih (w64 (x20 + 1)) _ hm)
   ·obtain ⟨g22, hm⟩ := qI hm
    rcases Bool.eq_false_or_eq_true (decide ((a1.Prices.getD x20.toNat default) < 0)) with b23 | b23
    ·replace hm := qB b23 hm
     refine q_vu [qd 3 (Dir.none) (inb_of g22), qf 6 b23] 1 [61] [(77, vb true)] [] [] ?_
     exact q_J (true) hm
    ·replace hm := qA b23 hm
     refine q_vu [qd 3 (Dir.none) (inb_of g22), qf 6 b23, qd 10 (Dir.none) (inb_of g22)] 1 [61] [(71, vp 0 6), (72, vc (tl e_i64 default a1.Prices)), (73, vi x20), (74, vc (.lptr (e_i64 (a1.Prices.getD x20.toNat default)))), (75, vi (a1.Prices.getD x20.toNat default)), (76, vb (decide ((a1.Prices.getD x20.toNat default) > 1000000))), (77, vb (decide ((a1.Prices.getD x20.toNat default) > 1000000)))] [] [] ?_
     exact q_J (decide ((a1.Prices.getD x20.toNat default) > 1000000)) hm
  ·replace hm := qA b21 hm
   refine q_ex 2 ?_
   obtain rfl := Option.some.inj hm
   exact wF () (by kernel_rfl) (by kernel_rfl)
theorem qDm (a1 : qC) (r : Int) (hm : WF a1 = some r) : CtX Tryz.prog globs 65 0 0 [.agg (qE a1)] [] (QQ r) (QE r) := by
 unfold WF at hm
 refine q_E Tryz.f65 78 fun E => ?_
 refine q_sq ?_
 refine q_vn [] 0 ⟨[(1, vp 0 0)], [(0, bx 58 (qE a1))]⟩ ?_
 refine q_sq ?_
 refine q_sq ?_
 refine q_vu [] 1 [] [(8, vb (((a1.Lengths.length : Nat) : Int) == 0))] [] [] ?_
 refine q_cn (((a1.Lengths.length : Nat) : Int) == 0) (fun b2 => ?_) (fun b2 => ?_)
 ·replace hm := qB b2 hm
  refine q_sq ?_
  refine q_vn [] 1 ⟨[(2, vi 3)], []⟩ ?_
  obtain rfl := Option.some.inj hm
  refine q_rt ?_
  exact q_rm
 ·replace hm := qA b2 hm
  refine q_sk ?_
  refine q_sq ?_
  refine q_sq ?_
  refine q_vu [] 1 [8] [(12, vb (decide (((a1.Lengths.length : Nat) : Int) > 8)))] [] [] ?_
  refine q_cn (decide (((a1.Lengths.length : Nat) : Int) > 8)) (fun b3 => ?_) (fun b3 => ?_)
  ·replace hm := qB b3 hm
   refine q_sq ?_
   refine q_vn [] 1 ⟨[(2, vi 4)], []⟩ ?_
   obtain rfl := Option.some.inj hm
   refine q_rt ?_
   exact q_rm
  ·replace hm := qA b3 hm
   refine q_sk ?_
   refine q_sq ?_
   refine q_sq ?_
   refine q_vu [] 1 [12] [(19, vb (((a1.Prices.length : Nat) : Int) != ((a1.Lengths.length : Nat) : Int)))] [] [] ?_
   refine q_cn (((a1.Prices.length : Nat) : Int) != ((a1.Lengths.length : Nat) : Int)) (fun b4 => ?_) (fun b4 => ?_)
   ·replace hm := qB b4 hm
    refine q_sq ?_
    refine q_vn [] 1 ⟨[(2, vi 19)], []⟩ ?_
    obtain rfl := Option.some.inj hm
    refine q_rt ?_
    exact q_rm
   ·replace hm := qA b4 hm
    refine q_sk ?_
    refine q_sq ?_
    refine q_sq ?_
    refine q_vu [] 1 [19] [(3, vi 0)] [] [] ?_
    obtain ⟨u18, h17, hm⟩ := qD hm
    refine zI (nd Tryz.f65 500) 0 (by kernel_rfl) FUEL (fun o => DV a1) (fun v st => RetQ Tryz.prog Tryz.f65 (QQ v) (QE v) .ret st) u18 (q_hl (YO a1 0) (qBk E a1 FUEL 0 u18 h17)) ?_ ?_
    ·rintro v19 rfl st hr
     obtain rfl := Option.some.inj hm
     exact hr
    ·rintro o16 rfl
     replace hm : _ = some r := hm
     refine q_sq ?_
     refine q_sq ?_
     refine q_vu [] 1 [] [(4, vi 0)] [] [] ?_
     obtain ⟨u28, h27, hm⟩ := qD hm
     refine zI (nd Tryz.f65 1012) 2 (by kernel_rfl) FUEL (fun o => DW) (fun v st => RetQ Tryz.prog Tryz.f65 (QQ v) (QE v) .ret st) u28 (q_hl (YN a1 0) (qA8 E a1 FUEL 0 u28 h27)) ?_ ?_
     ·rintro v29 rfl st hr
      obtain rfl := Option.some.inj hm
      exact hr
     ·rintro o26 rfl
      replace hm : _ = some r := hm
      refine q_sq ?_
      refine q_vn [] 1 ⟨[(2, vi 0)], []⟩ ?_
      obtain rfl := Option.some.inj hm
      refine q_rt ?_
      exact q_rm
def YQ (r : Int) : V := vi r
def ZD (r : Int) : List (Nat × (Nat × O)) := []
theorem qKO (r : Int) : WC (ZD r) := by
 intro i k o h
 unfold ZD at h
 cases h
def LA (a1 : List qC) (x3 : Int) (x9 : Int) : St :=
 ⟨[(0, vc (tl qE default a1)), (3, vi x3), (4, vp 0 0), (5, vi x9)], [(0, bx 58 [cs ((a1.getD x3.toNat default).Name), ci ((a1.getD x3.toNat default).Thick), ci ((a1.getD x3.toNat default).Width), ci ((a1.getD x3.toNat default).Allow), ci ((a1.getD x3.toNat default).Wane), tl e_i64 default ((a1.getD x3.toNat default).Lengths), tl e_i64 default ((a1.getD x3.toNat default).Prices)])]⟩
def qBc (a1 : List qC) (x3 : Int) : St :=
 ⟨[(0, vc (tl qE default a1)), (3, vi x3), (4, vp 0 0)], [(0, bx 58 [cs ((a1.getD x3.toNat default).Name), ci ((a1.getD x3.toNat default).Thick), ci ((a1.getD x3.toNat default).Width), ci ((a1.getD x3.toNat default).Allow), ci ((a1.getD x3.toNat default).Wane), tl e_i64 default ((a1.getD x3.toNat default).Lengths), tl e_i64 default ((a1.getD x3.toNat default).Prices)])]⟩
def qAs (a1 : List qC) (x3 : Int) (x24 : Bool) : St :=
 ⟨[(0, vc (tl qE default a1)), (3, vi x3), (4, vp 0 0), (78, vb x24)], [(0, bx 58 [cs ((a1.getD x3.toNat default).Name), ci ((a1.getD x3.toNat default).Thick), ci ((a1.getD x3.toNat default).Width), ci ((a1.getD x3.toNat default).Allow), ci ((a1.getD x3.toNat default).Wane), tl e_i64 default ((a1.getD x3.toNat default).Lengths), tl e_i64 default ((a1.getD x3.toNat default).Prices)])]⟩
def FT (a1 : List qC) (x3 : Int) : St :=
 ⟨[(0, vc (tl qE default a1)), (3, vi x3)], []⟩
def qAA : St :=
 ⟨[], []⟩
theorem qFy (E : Env 0) (a1 : List qC) (x3 : Int) : ∀ (n : Nat) (x9 : Int) (res : Int ⊕ Unit), ZO a1 x3 n x9 = some res → HL (kx E 91 0) (nd Tryz.f37 59700) (wC 2 (fun o => qBc a1 x3) (fun v st => RetQ Tryz.prog Tryz.f37 (YQ v) (ZD v) .ret st) res) n (LA a1 x3 x9) := by
 intro n
 induction n with
 | zero =>
  intro x9 res hm
  cases hm
 | succ n ih =>
  intro x9 res hm
  refine qO ?_
  refine q_sq ?_
  refine q_sq ?_
  refine q_vu [] 1 [] [(28, vb (decide (x9 < x3)))] [] [] ?_
  refine q_cn (decide (x9 < x3)) (fun b10 => ?_) (fun b10 => ?_)
  ·replace hm := qB b10 hm
   refine q_sk ?_
   refine q_sq ?_
   refine q_bk 3 ?_
   refine q_sq ?_
   obtain ⟨g11, hm⟩ := qI hm
   refine q_du [qd 2 (Dir.none) (inb_of g11)] [0, 0, 3, 7, 15, 0, 32, 127] 1 [28] [(38, vb (strEq ((a1.getD x9.toNat default).Name) ((a1.getD x3.toNat default).Name)))] [] [] ?_
   refine q_cn (strEq ((a1.getD x9.toNat default).Name) ((a1.getD x3.toNat default).Name)) (fun b12 => ?_) (fun b12 => ?_)
   ·replace hm := qB b12 hm
    refine q_sq ?_
    refine q_vn [] 1 ⟨[(2, vi 7)], []⟩ ?_
    obtain rfl := Option.some.inj hm
    refine q_rt ?_
    refine qU 7 ?_
    exact q_rm
   ·replace hm := qA b12 hm
    refine q_sk ?_
    refine q_vu [] 1 [5, 38] [(5, vi (w64 (x9 + 1)))] [] [] ?_
    exact q_hl (LA a1 x3 (w64 (x9 + 1))) (ih (w64 (x9 + 1)) _ hm)
  ·replace hm := qA b10 hm
   refine q_ex 2 ?_
   obtain rfl := Option.some.inj hm
   exact wF () (by kernel_rfl) (by kernel_rfl)
theorem qFI (E : Env 0) (a1 : List qC) : ∀ (n : Nat) (x3 : Int) (res : Int ⊕ Unit), zV a1 n x3 = some res → HL (kx E 91 0) (nd Tryz.f37 116) (wC 0 (fun o => qAA) (fun v st => RetQ Tryz.prog Tryz.f37 (YQ v) (ZD v) .ret st) res) n (FT a1 x3) := by
 intro n
 induction n with
 | zero =>
  intro x3 res hm
  cases hm
 | succ n ih =>
  intro x3 res hm
  refine qO ?_
  refine q_sq ?_
  refine q_sq ?_
  refine q_vu [] 0 [] [(15, vb (decide (x3 < ((a1.length : Nat) : Int))))] [] [] ?_
  refine q_cn (decide (x3 < ((a1.length : Nat) : Int))) (fun b4 => ?_) (fun b4 => ?_)
  ·replace hm := qB b4 hm
   refine q_sk ?_
   refine q_sq ?_
   refine q_bk 1 ?_
   refine q_sq ?_
   obtain ⟨g5, hm⟩ := qI hm
   refine q_vu [qd 2 (Dir.none) (inb_of g5)] 0 [15] [(4, vp 0 0)] [] [(0, bx 58 [cs ((a1.getD x3.toNat default).Name), ci ((a1.getD x3.toNat default).Thick), ci ((a1.getD x3.toNat default).Width), ci ((a1.getD x3.toNat default).Allow), ci ((a1.getD x3.toNat default).Wane), tl e_i64 default ((a1.getD x3.toNat default).Lengths), tl e_i64 default ((a1.getD x3.toNat default).Prices)])] ?_
   refine q_sq ?_
   refine q_sq ?_
   obtain ⟨v6, h7, hm⟩ := qD hm
   refine q_vu [qc 2 [23] 1 (qG4 ((a1.getD x3.toNat default).Name) v6 h7)] 1 [] [(25, vb (!v6))] [] [] ?_
   refine q_cn (!v6) (fun b8 => ?_) (fun b8 => ?_)
   ·replace hm := qB b8 hm
    refine q_sq ?_
    refine q_vn [] 1 ⟨[(2, vi 6)], []⟩ ?_
    obtain rfl := Option.some.inj hm
    refine q_rt ?_
    refine qU 6 ?_
    exact q_rm
   ·replace hm := qA b8 hm
    refine q_sk ?_
    refine q_sq ?_
    refine q_sq ?_
    refine q_vu [] 1 [25] [(5, vi 0)] [] [] ?_
    obtain ⟨u15, h14, hm⟩ := qD hm
    refine zI (nd Tryz.f37 59700) 2 (by kernel_rfl) FUEL (fun o => qBc a1 x3) (fun v st => RetQ Tryz.prog Tryz.f37 (YQ v) (ZD v) .ret st) u15 (q_hl (LA a1 x3 0) (qFy E a1 x3 FUEL 0 u15 h14)) ?_ ?_
    ·rintro v16 rfl st hr
     obtain rfl := Option.some.inj hm
     exact qU v16 hr
    ·rintro o13 rfl
     replace hm : _ = some res := hm
     refine q_sq ?_
     refine q_jn (ι := Bool) (fun p => qAs a1 x3 p) (fun p => jG a1 x3 (zV a1 n) p = some res) ?_ ?_
     ·rintro x24 hm
      show H _ (qAs a1 x3 x24) _ _
      refine q_cn x24 (fun b25 => ?_) (fun b25 => ?_)
      ·replace hm := qB b25 hm
       refine q_sq ?_
       refine q_vn [] 1 ⟨[(2, vi 9)], []⟩ ?_
       obtain rfl := Option.some.inj hm
       refine q_rt ?_
       refine qU 9 ?_
       exact q_rm
      ·replace hm := qA b25 hm
       refine q_sk ?_
       refine q_sq ?_
       refine q_sq ?_
       obtain ⟨v26, h27, hm⟩ := qD hm
       refine q_vu [qc 1 [80] 1 (SU (a1.getD x3.toNat default) v26 h27)] 1 [78] [(7, vi v26.2)] [] [] ?_
       refine q_sq ?_
       refine q_vu [] 1 [7] [(85, vb (decide (v26.2 > 600)))] [] [] ?_
       refine q_cn (decide (v26.2 > 600)) (fun b28 => ?_) (fun b28 => ?_)
       ·replace hm := qB b28 hm
        refine q_sq ?_
        refine q_vn [] 1 ⟨[(2, vi 9)], []⟩ ?_
        obtain rfl := Option.some.inj hm
        refine q_rt ?_
        refine qU 9 ?_
        exact q_rm
       ·replace hm := qA b28 hm
        refine q_sk ?_
        refine q_sq ?_
        obtain ⟨v29, h30, hm⟩ := qD hm
        refine q_vu [qc 1 [86] 1 (qDm (a1.getD x3.toNat default) v29 h30)] 1 [4, 85] [(8, vi v29)] [0] [] ?_
        refine q_sq ?_
        refine q_vu [] 1 [] [(89, vb (v29 != 0))] [] [] ?_
        refine q_cn (v29 != 0) (fun b31 => ?_) (fun b31 => ?_)
        ·replace hm := qB b31 hm
         refine q_sq ?_
         refine q_vn [] 1 ⟨[(2, vi v29)], []⟩ ?_
         obtain rfl := Option.some.inj hm
         refine q_rt ?_
         refine qU v29 ?_
         exact q_rm
        ·replace hm := qA b31 hm
         refine q_sk ?_
         refine q_vu [] 1 [3, 8, 89] [(3, vi (w64 (x3 + 1)))] [] [] ?_
         exact q_hl (FT a1 (w64 (x3 + 1))) (ih (w64 (x3 + 1)) _ hm)
     ·rcases Bool.eq_false_or_eq_true (decide (((a1.getD x3.toNat default).Thick) < 5)) with b17 | b17
      ·replace hm := qB b17 hm
       refine q_vu [qf 3 b17] 1 [] [(78, vb true)] [] [] ?_
       exact q_J (true) hm
      ·replace hm := qA b17 hm
       rcases Bool.eq_false_or_eq_true (decide (((a1.getD x3.toNat default).Thick) > 300)) with b18 | b18
       ·replace hm := qB b18 hm
        refine q_vu [qf 3 b17, qf 8 b18] 1 [] [(43, vp 0 1), (44, vi ((a1.getD x3.toNat default).Thick)), (45, vb (decide (((a1.getD x3.toNat default).Thick) > 300))), (78, vb true)] [] [] ?_
        exact q_J (true) hm
       ·replace hm := qA b18 hm
        rcases Bool.eq_false_or_eq_true (decide (((a1.getD x3.toNat default).Width) < ((a1.getD x3.toNat default).Thick))) with b19 | b19
        ·replace hm := qB b19 hm
         refine q_vu [qf 3 b17, qf 8 b18, qf 15 b19] 1 [] [(43, vp 0 1), (44, vi ((a1.getD x3.toNat default).Thick)), (45, vb (decide (((a1.getD x3.toNat default).Thick) > 300))), (48, vp 0 2), (49, vi ((a1.getD x3.toNat default).Width)), (50, vp 0 1), (51, vi ((a1.getD x3.toNat default).Thick)), (52, vb (decide (((a1.getD x3.toNat default).Width) < ((a1.getD x3.toNat default).Thick)))), (78, vb true)] [] [] ?_
         exact q_J (true) hm
        ·replace hm := qA b19 hm
         rcases Bool.eq_false_or_eq_true (decide (((a1.getD x3.toNat default).Width) > 600)) with b20 | b20
         ·replace hm := qB b20 hm
          refine q_vu [qf 3 b17, qf 8 b18, qf 15 b19, qf 20 b20] 1 [] [(43, vp 0 1), (44, vi ((a1.getD x3.toNat default).Thick)), (45, vb (decide (((a1.getD x3.toNat default).Thick) > 300))), (48, vp 0 2), (49, vi ((a1.getD x3.toNat default).Width)), (50, vp 0 1), (51, vi ((a1.getD x3.toNat default).Thick)), (52, vb (decide (((a1.getD x3.toNat default).Width) < ((a1.getD x3.toNat default).Thick)))), (55, vp 0 2), (56, vi ((a1.getD x3.toNat default).Width)), (57, vb (decide (((a1.getD x3.toNat default).Width) > 600))), (78, vb true)] [] [] ?_
          exact q_J (true) hm
         ·replace hm := qA b20 hm
          rcases Bool.eq_false_or_eq_true (decide (((a1.getD x3.toNat default).Allow) < 0)) with b21 | b21
          ·replace hm := qB b21 hm
           refine q_vu [qf 3 b17, qf 8 b18, qf 15 b19, qf 20 b20, qf 25 b21] 1 [] [(43, vp 0 1), (44, vi ((a1.getD x3.toNat default).Thick)), (45, vb (decide (((a1.getD x3.toNat default).Thick) > 300))), (48, vp 0 2), (49, vi ((a1.getD x3.toNat default).Width)), (50, vp 0 1), (51, vi ((a1.getD x3.toNat default).Thick)), (52, vb (decide (((a1.getD x3.toNat default).Width) < ((a1.getD x3.toNat default).Thick)))), (55, vp 0 2), (56, vi ((a1.getD x3.toNat default).Width)), (57, vb (decide (((a1.getD x3.toNat default).Width) > 600))), (60, vp 0 3), (61, vi ((a1.getD x3.toNat default).Allow)), (62, vb (decide (((a1.getD x3.toNat default).Allow) < 0))), (78, vb true)] [] [] ?_
           exact q_J (true) hm
          ·replace hm := qA b21 hm
           rcases Bool.eq_false_or_eq_true (decide (((a1.getD x3.toNat default).Allow) > 200)) with b22 | b22
           ·replace hm := qB b22 hm
            refine q_vu [qf 3 b17, qf 8 b18, qf 15 b19, qf 20 b20, qf 25 b21, qf 30 b22] 1 [] [(43, vp 0 1), (44, vi ((a1.getD x3.toNat default).Thick)), (45, vb (decide (((a1.getD x3.toNat default).Thick) > 300))), (48, vp 0 2), (49, vi ((a1.getD x3.toNat default).Width)), (50, vp 0 1), (51, vi ((a1.getD x3.toNat default).Thick)), (52, vb (decide (((a1.getD x3.toNat default).Width) < ((a1.getD x3.toNat default).Thick)))), (55, vp 0 2), (56, vi ((a1.getD x3.toNat default).Width)), (57, vb (decide (((a1.getD x3.toNat default).Width) > 600))), (60, vp 0 3), (61, vi ((a1.getD x3.toNat default).Allow)), (62, vb (decide (((a1.getD x3.toNat default).Allow) < 0))), (65, vp 0 3), (66, vi ((a1.getD x3.toNat default).Allow)), (67, vb (decide (((a1.getD x3.toNat default).Allow) > 200))), (78, vb true)] [] [] ?_
            exact q_J (true) hm
           ·replace hm := qA b22 hm
            rcases Bool.eq_false_or_eq_true (decide (((a1.getD x3.toNat default).Wane) < 0)) with b23 | b23
            ·replace hm := qB b23 hm
             refine q_vu [qf 3 b17, qf 8 b18, qf 15 b19, qf 20 b20, qf 25 b21, qf 30 b22, qf 35 b23] 1 [] [(43, vp 0 1), (44, vi ((a1.getD x3.toNat default).Thick)), (45, vb (decide (((a1.getD x3.toNat default).Thick) > 300))), (48, vp 0 2), (49, vi ((a1.getD x3.toNat default).Width)), (50, vp 0 1), (51, vi ((a1.getD x3.toNat default).Thick)), (52, vb (decide (((a1.getD x3.toNat default).Width) < ((a1.getD x3.toNat default).Thick)))), (55, vp 0 2), (56, vi ((a1.getD x3.toNat default).Width)), (57, vb (decide (((a1.getD x3.toNat default).Width) > 600))), (60, vp 0 3), (61, vi ((a1.getD x3.toNat default).Allow)), (62, vb (decide (((a1.getD x3.toNat default).Allow) < 0))), (65, vp 0 3), (66, vi ((a1.getD x3.toNat default).Allow)), (67, vb (decide (((a1.getD x3.toNat default).Allow) > 200))), (70, vp 0 4), (71, vi ((a1.getD x3.toNat default).Wane)), (72, vb (decide (((a1.getD x3.toNat default).Wane) < 0))), (78, vb true)] [] [] ?_
             exact q_J (true) hm
            ·replace hm := qA b23 hm
             refine q_vu [qf 3 b17, qf 8 b18, qf 15 b19, qf 20 b20, qf 25 b21, qf 30 b22, qf 35 b23] 1 [] [(43, vp 0 1), (44, vi ((a1.getD x3.toNat default).Thick)), (45, vb (decide (((a1.getD x3.toNat default).Thick) > 300))), (48, vp 0 2), (49, vi ((a1.getD x3.toNat default).Width)), (50, vp 0 1), (51, vi ((a1.getD x3.toNat default).Thick)), (52, vb (decide (((a1.getD x3.toNat default).Width) < ((a1.getD x3.toNat default).Thick)))), (55, vp 0 2), (56, vi ((a1.getD x3.toNat default).Width)), (57, vb (decide (((a1.getD x3.toNat default).Width) > 600))), (60, vp 0 3), (61, vi ((a1.getD x3.toNat default).Allow)), (62, vb (decide (((a1.getD x3.toNat default).Allow) < 0))), (65, vp 0 3), (66, vi ((a1.getD x3.toNat default).Allow)), (67, vb (decide (((a1.getD x3.toNat default).Allow) > 200))), (70, vp 0 4), (71, vi ((a1.getD x3.toNat default).Wane)), (72, vb (decide (((a1.getD x3.toNat default).Wane) < 0))), (75, vp 0 4), (76, vi ((a1.getD x3.toNat default).Wane)), (77, vb (decide (((a1.getD x3.toNat default).Wane) > 1000))), (78, vb (decide (((a1.getD x3.toNat default).Wane) > 1000)))] [] [] ?_
             exact q_J (decide (((a1.getD x3.toNat default).Wane) > 1000)) hm
  ·replace hm := qA b4 hm
   refine q_ex 0 ?_
   obtain rfl := Option.some.inj hm
   exact wF () (by kernel_rfl) (by kernel_rfl)
theorem EE (a1 : List qC) (r : Int) (hm : KG a1 = some r) : CtX Tryz.prog globs 37 0 0 [.one (tl qE default a1)] [] (YQ r) (ZD r) := by
 unfold KG at hm
 refine q_E Tryz.f37 91 fun E => ?_
 refine q_sq ?_
 refine q_vn [] 0 ⟨[(0, vc (tl qE default a1))], []⟩ ?_
 refine q_sq ?_
 refine q_sq ?_
 refine q_vu [] 0 [] [(11, vb (decide (((a1.length : Nat) : Int) > 16)))] [] [] ?_
 refine q_cn (decide (((a1.length : Nat) : Int) > 16)) (fun b2 => ?_) (fun b2 => ?_)
 ·replace hm := qB b2 hm
  refine q_sq ?_
  refine q_vn [] 0 ⟨[(2, vi 4)], []⟩ ?_
  obtain rfl := Option.some.inj hm
  refine q_rt ?_
  exact q_rm
 ·replace hm := qA b2 hm
  refine q_sk ?_
  refine q_sq ?_
  refine q_sq ?_
  refine q_vu [] 0 [11] [(3, vi 0)] [] [] ?_
  obtain ⟨u34, h33, hm⟩ := qD hm
  refine zI (nd Tryz.f37 116) 0 (by kernel_rfl) FUEL (fun o => qAA) (fun v st => RetQ Tryz.prog Tryz.f37 (YQ v) (ZD v) .ret st) u34 (q_hl (FT a1 0) (qFI E a1 FUEL 0 u34 h33)) ?_ ?_
  ·rintro v35 rfl st hr
   obtain rfl := Option.some.inj hm
   exact hr
  ·rintro o32 rfl
   replace hm : _ = some r := hm
   refine q_sq ?_
   refine q_vn [] 0 ⟨[(2, vi 0)], []⟩ ?_
   obtain rfl := Option.some.inj hm
   refine q_rt ?_
   exact q_rm
set_option maxRecDepth 100000
def qKl (r : Bool) : V := vb r
def qKn (r : Bool) : List (Nat × (Nat × O)) := []
def qBw (x12 : Bool) : St :=
 ⟨[(6, vb x12)], []⟩
theorem qJx (a1 : List Slice) (a2 : List Defect) (a3 : qC) (r : Bool) (hm : EN a1 a2 a3 = some r) : CtX Tryz.prog globs 68 0 0 [.one (tl qG default a1), .one (tl qH default a2), .agg (qE a3)] [] (qKl r) (qKn r) := by
 unfold EN at hm
 refine q_E Tryz.f68 21 fun E => ?_
 refine q_sq ?_
 refine q_vn [] 0 ⟨[(0, vc (tl qG default a1)), (1, vc (tl qH default a2)), (5, vp 0 0)], [(0, bx 58 (qE a3))]⟩ ?_
 refine q_jn (ι := Bool) (fun p => qBw p) (fun p => KN p = some r) ?_ ?_
 ·rintro x12 hm
  show H _ (qBw x12) _ _
  obtain rfl := Option.some.inj hm
  refine q_rt ?_
  exact q_rm
 ·obtain ⟨v4, h5, hm⟩ := qD hm
  rcases Bool.eq_false_or_eq_true (v4 == 0) with b6 | b6
  ·replace hm := qB b6 hm
   obtain ⟨v7, h8, hm⟩ := qD hm
   rcases Bool.eq_false_or_eq_true (v7 == 0) with b9 | b9
   ·replace hm := qB b9 hm
    obtain ⟨v10, h11, hm⟩ := qD hm
    refine q_vn [qc 1 [7] 1 (jF a1 v4 h5), qf 3 b6, qk 5 [10, 11] 1 ⟨[(10, vb true), (11, vc (tl qH default a2))], []⟩ (ED a2 v7 h8), qf 8 b9, qd 10 (drw 1 0 (rf qE ([a3] : List qC))) (litP qE default 7 (fun _ => rfl) ([a3] : List qC) 1 rfl), qd 11 (dex (cen [] [] 2 0 (YQ v10) (ZD v10) [15, 17] [1])) (yJ (K := (kx E 21 0)) (xs' := [.one (.lst 1 (rf qE ([a3] : List qC)))]) (b := false) ⟨[(15, vb true), (17, vo 1 0 7 1)], [(1, ro 0 58 7 1 (rf qE ([a3] : List qC)))]⟩ (opAt (rg Tryz.f68 6) 11) [] [] 2 (o1 (Nat.le_refl 1)) (by simp only [tl, rf, show ([a3] : List qC).length = 1 from rfl]) (EE ([a3] : List qC) v10 h11) (.inr ⟨(by kernel_rfl), qKO v10⟩) (by kernel_rfl))] 1 ⟨[(6, vb (v10 == 0))], []⟩ ?_
    exact q_J (v10 == 0) hm
   ·replace hm := qA b9 hm
    refine q_vn [qc 1 [7] 1 (jF a1 v4 h5), qf 3 b6, qk 5 [10, 11] 1 ⟨[(10, vb true), (11, vc (tl qH default a2))], []⟩ (ED a2 v7 h8), qf 8 b9] 1 ⟨[(6, vb false)], []⟩ ?_
    exact q_J (false) hm
  ·replace hm := qA b6 hm
   refine q_vn [qc 1 [7] 1 (jF a1 v4 h5), qf 3 b6] 1 ⟨[(6, vb false)], []⟩ ?_
   exact q_J (false) hm
open Go.Proofs
set_option maxHeartbeats 4000000
set_option maxRecDepth 100000
def qLD (r : Span × Int × Bool) : V := .tup [.agg (e_Span r.1), .one (ci r.2.1), .one (cb r.2.2)]
def qMg (r : Span × Int × Bool) : List (Nat × (Nat × O)) := []
def qBL (a1 : List Slice) (a2 : List Defect) (a3 : qC) (a4 : Rect) (a5 : Int) (a6 : Int) (x19 : Int) (x26 : Int) (x38 : Int) (x39 : Bool) (x40 : Span) : St :=
 ⟨[(0, vc (tl qG default a1)), (1, vc (tl qH default a2)), (4, vi a5), (5, vi a6), (8, vp 0 0), (9, vp 1 0), (12, vp 2 0), (15, vp 3 0), (16, vi x38), (17, vb x39), (18, vi x19), (19, vi x26)], [(0, bx 58 (qE a3)), (1, bx 28 (qK a4)), (2, bx 26 [ci 0, ci 0]), (3, bx 26 (e_Span x40))]⟩
def qCc (a1 : List Slice) (a2 : List Defect) (a3 : qC) (a4 : Rect) (a5 : Int) (a6 : Int) (x19 : Int) (x24 : Int) (x25 : Bool) (x26 : Int) (x27 : Span) (v33 : Int) (x36 : Bool) : St :=
 ⟨[(0, vc (tl qG default a1)), (1, vc (tl qH default a2)), (4, vi a5), (5, vi a6), (8, vp 0 0), (9, vp 1 0), (12, vp 2 0), (15, vp 3 0), (16, vi x24), (17, vb x25), (18, vi x19), (19, vi x26), (20, vp 4 0), (21, vi v33), (84, vb x36)], [(0, bx 58 (qE a3)), (1, bx 28 (qK a4)), (2, bx 26 [ci 0, ci 0]), (3, bx 26 (e_Span x27)), (4, bx 108 [ci a4.X.A, ci a4.X.B, ci a4.Y.A, ci a4.Y.B, ci x19, ci (w64 (x19 + (a3.Lengths.getD x26.toNat default)))])]⟩
def MT (a1 : List Slice) (a2 : List Defect) (a3 : qC) (a4 : Rect) (a5 : Int) (a6 : Int) (x19 : Int) (x24 : Int) (x25 : Bool) (x26 : Int) (x27 : Span) : St :=
 ⟨[(0, vc (tl qG default a1)), (1, vc (tl qH default a2)), (4, vi a5), (5, vi a6), (8, vp 0 0), (9, vp 1 0), (12, vp 2 0), (15, vp 3 0), (16, vi x24), (17, vb x25), (18, vi x19), (19, vi x26)], [(0, bx 58 (qE a3)), (1, bx 28 (qK a4)), (2, bx 26 [ci 0, ci 0]), (3, bx 26 (e_Span x27))]⟩
def qBY (a1 : List Slice) (a2 : List Defect) (a3 : qC) (a4 : Rect) (a5 : Int) (a6 : Int) (x19 : Int) (x41 : Int) (x42 : Bool) (x43 : Span) : St :=
 ⟨[(0, vc (tl qG default a1)), (1, vc (tl qH default a2)), (4, vi a5), (5, vi a6), (8, vp 0 0), (9, vp 1 0), (12, vp 2 0), (15, vp 3 0), (16, vi x41), (17, vb x42), (18, vi x19)], [(0, bx 58 (qE a3)), (1, bx 28 (qK a4)), (2, bx 26 [ci 0, ci 0]), (3, bx 26 (e_Span x43))]⟩
def SC (a1 : List Slice) (a2 : List Defect) (a3 : qC) (a4 : Rect) (a5 : Int) (a6 : Int) (x17 : Int) (x18 : Bool) (x19 : Int) (x20 : Span) : St :=
 ⟨[(0, vc (tl qG default a1)), (1, vc (tl qH default a2)), (4, vi a5), (5, vi a6), (8, vp 0 0), (9, vp 1 0), (12, vp 2 0), (15, vp 3 0), (16, vi x17), (17, vb x18), (18, vi x19)], [(0, bx 58 (qE a3)), (1, bx 28 (qK a4)), (2, bx 26 [ci 0, ci 0]), (3, bx 26 (e_Span x20))]⟩
def qBG (x46 : Int) (x47 : Bool) (x48 : Span) : St :=
 ⟨[(12, vp 2 0), (15, vp 3 0), (16, vi x46), (17, vb x47)], [(2, bx 26 [ci 0, ci 0]), (3, bx 26 (e_Span x48))]⟩
def qCh (a1 : List Slice) (a2 : List Defect) (a3 : qC) (a4 : Rect) (a5 : Int) (a6 : Int) (x15 : Bool) : St :=
 ⟨[(0, vc (tl qG default a1)), (1, vc (tl qH default a2)), (4, vi a5), (5, vi a6), (8, vp 0 0), (9, vp 1 0), (12, vp 2 0), (36, vb x15)], [(0, bx 58 (qE a3)), (1, bx 28 (qK a4)), (2, bx 26 [ci 0, ci 0])]⟩
theorem qGe (E : Env 0) (a1 : List Slice) (a2 : List Defect) (a3 : qC) (a4 : Rect) (a5 : Int) (a6 : Int) (x19 : Int) : ∀ (n : Nat) (x24 : Int) (x25 : Bool) (x26 : Int) (x27 : Span) (res : Int × Bool × Span), jB a1 a2 a3 a4 a6 x19 n x24 x25 x26 x27 = some res → HL (kx E 91 0) (nd Tryz.f41 15652) (zN 2 (fun o => qBY a1 a2 a3 a4 a5 a6 x19 o.1 o.2.1 o.2.2) res) n (MT a1 a2 a3 a4 a5 a6 x19 x24 x25 x26 x27) := by
 intro n
 induction n with
 | zero =>
  intro x24 x25 x26 x27 res hm
  cases hm
 | succ n ih =>
  intro x24 x25 x26 x27 res hm
  refine qO ?_
  refine q_sq ?_
  refine q_sq ?_
  refine q_vu [] 4 [] [(50, vb (decide (x26 < ((a3.Lengths.length : Nat) : Int))))] [] [] ?_
  refine q_cn (decide (x26 < ((a3.Lengths.length : Nat) : Int))) (fun b28 => ?_) (fun b28 => ?_)
  ·replace hm := qB b28 hm
   refine q_sk ?_
   refine q_jn (ι := Int × Bool × Span) (fun p => qBL a1 a2 a3 a4 a5 a6 x19 x26 p.1 p.2.1 p.2.2) (fun p => WX x26 (jB a1 a2 a3 a4 a6 x19 n) p.1 p.2.1 p.2.2 = some res) ?_ ?_
   ·rintro ⟨x38, x39, x40⟩ hm
    show H _ (qBL a1 a2 a3 a4 a5 a6 x19 x26 x38 x39 x40) _ _
    refine q_vu [] 5 [19] [(19, vi (w64 (x26 + 1)))] [] [] ?_
    exact q_hl (MT a1 a2 a3 a4 a5 a6 x19 x38 x39 (w64 (x26 + 1)) x40) (ih x38 x39 (w64 (x26 + 1)) x40 _ hm)
   ·refine q_bk 3 ?_
    refine q_sq ?_
    obtain ⟨g29, hm⟩ := qI hm
    refine q_du [qd 9 (Dir.none) (inb_of g29)] [0, 1, 0, 4, 0, 0, 0, 64, 0, 448, 960, 2016, 4080, 8191, 0, 32767] 4 [50] [(20, vp 4 0)] [] [(4, bx 108 [ci a4.X.A, ci a4.X.B, ci a4.Y.A, ci a4.Y.B, ci x19, ci (w64 (x19 + (a3.Lengths.getD x26.toNat default)))])] ?_
    refine q_sq ?_
    refine q_sq ?_
    obtain ⟨v30, h31, hm⟩ := qD hm
    refine q_vu [qc 4 [67, 68, 69, 70] 5 (qHf a1 a2 a3 (Box.mk a4.X a4.Y (Span.mk x19 (w64 (x19 + (a3.Lengths.getD x26.toNat default))))) v30 h31)] 5 [] [(72, vb (!v30))] [] [] ?_
    refine q_cn (!v30) (fun b32 => ?_) (fun b32 => ?_)
    ·replace hm := qB b32 hm
     refine q_ex 3 ?_
     exact q_J (x24, x25, x27) hm
    ·replace hm := qA b32 hm
     refine q_sk ?_
     refine q_sq ?_
     obtain ⟨v33, h34, hm⟩ := qD hm
     refine q_vu [qc 4 [73, 74, 75, 76] 5 (qIQ a2 a3 (Box.mk a4.X a4.Y (Span.mk x19 (w64 (x19 + (a3.Lengths.getD x26.toNat default))))) a6 v33 h34)] 5 [72] [(21, vi v33)] [] [] ?_
     refine q_jn (ι := Bool) (fun p => qCc a1 a2 a3 a4 a5 a6 x19 x24 x25 x26 x27 v33 p) (fun p => NR a3 x19 x24 x25 x26 x27 (jB a1 a2 a3 a4 a6 x19 n) v33 p = some res) ?_ ?_
     ·rintro x36 hm
      show H _ (qCc a1 a2 a3 a4 a5 a6 x19 x24 x25 x26 x27 v33 x36) _ _
      refine q_cn x36 (fun b37 => ?_) (fun b37 => ?_)
      ·replace hm := qB b37 hm
       refine q_vu [] 5 [16, 17, 20, 21, 84] [(16, vi v33), (17, vb true)] [3, 4] [(3, bx 26 [ci x19, ci (w64 (x19 + (a3.Lengths.getD x26.toNat default)))])] ?_
       exact q_J (v33, true, (Span.mk x19 (w64 (x19 + (a3.Lengths.getD x26.toNat default))))) hm
      ·replace hm := qA b37 hm
       refine q_sk ?_
       exact q_J (x24, x25, x27) hm
     ·rcases Bool.eq_false_or_eq_true (!x25) with b35 | b35
      ·replace hm := qB b35 hm
       refine q_vu [qf 2 b35] 5 [] [(84, vb true)] [] [] ?_
       exact q_J (true) hm
      ·replace hm := qA b35 hm
       refine q_vu [qf 2 b35] 5 [] [(81, vi v33), (82, vi x24), (83, vb (decide (v33 > x24))), (84, vb (decide (v33 > x24)))] [] [] ?_
       exact q_J (decide (v33 > x24)) hm
  ·replace hm := qA b28 hm
   refine q_ex 2 ?_
   obtain rfl := Option.some.inj hm
   exact zX (by kernel_rfl) (by kernel_rfl)
theorem qGJ (E : Env 0) (a1 : List Slice) (a2 : List Defect) (a3 : qC) (a4 : Rect) (a5 : Int) (a6 : Int) : ∀ (n : Nat) (x17 : Int) (x18 : Bool) (x19 : Int) (x20 : Span) (res : Int × Bool × Span), YW a1 a2 a3 a4 a5 a6 n x17 x18 x19 x20 = some res → HL (kx E 91 0) (nd Tryz.f41 244) (zN 0 (fun o => qBG o.1 o.2.1 o.2.2) res) n (SC a1 a2 a3 a4 a5 a6 x17 x18 x19 x20) := by
 intro n
 induction n with
 | zero =>
  intro x17 x18 x19 x20 res hm
  cases hm
 | succ n ih =>
  intro x17 x18 x19 x20 res hm
  refine qO ?_
  refine q_sq ?_
  refine q_sq ?_
  obtain ⟨v21, h22, hm⟩ := qD hm
  refine q_vu [qc 2 [40] 4 (XA a1 v21 h22)] 4 [] [(42, vb (decide (x19 < v21)))] [] [] ?_
  refine q_cn (decide (x19 < v21)) (fun b23 => ?_) (fun b23 => ?_)
  ·replace hm := qB b23 hm
   refine q_sk ?_
   refine q_sq ?_
   refine q_bk 1 ?_
   refine q_sq ?_
   refine q_vu [] 4 [42] [(19, vi 0)] [] [] ?_
   obtain ⟨o44, h45, hm⟩ := qD hm
   refine zF (nd Tryz.f41 15652) 2 (by kernel_rfl) FUEL (fun o => qBY a1 a2 a3 a4 a5 a6 x19 o.1 o.2.1 o.2.2) o44 (q_hl (MT a1 a2 a3 a4 a5 a6 x19 x17 x18 0 x20) (qGe E a1 a2 a3 a4 a5 a6 x19 FUEL x17 x18 0 x20 o44 h45)) ?_
   refine q_vu [] 4 [18] [(18, vi (w64 (x19 + a5)))] [] [] ?_
   exact q_hl (SC a1 a2 a3 a4 a5 a6 o44.1 o44.2.1 (w64 (x19 + a5)) o44.2.2) (ih o44.1 o44.2.1 (w64 (x19 + a5)) o44.2.2 _ hm)
  ·replace hm := qA b23 hm
   refine q_ex 0 ?_
   obtain rfl := Option.some.inj hm
   exact zX (by kernel_rfl) (by kernel_rfl)
theorem qKV (a1 : List Slice) (a2 : List Defect) (a3 : qC) (a4 : Rect) (a5 : Int) (a6 : Int) (r : Span × Int × Bool) (hm : MY a1 a2 a3 a4 a5 a6 = some r) : CtX Tryz.prog globs 41 0 0 [.one (tl qG default a1), .one (tl qH default a2), .agg (qE a3), .agg (qK a4), .one (ci a5), .one (ci a6)] [] (qLD r) (qMg r) := by
 unfold MY at hm
 refine q_E Tryz.f41 91 fun E => ?_
 refine q_sq ?_
 refine q_vn [] 0 ⟨[(0, vc (tl qG default a1)), (1, vc (tl qH default a2)), (4, vi a5), (5, vi a6), (8, vp 0 0), (9, vp 1 0), (12, vp 2 0)], [(0, bx 58 (qE a3)), (1, bx 28 (qK a4)), (2, bx 26 [ci 0, ci 0])]⟩ ?_
 refine q_sq ?_
 refine q_jn (ι := Bool) (fun p => qCh a1 a2 a3 a4 a5 a6 p) (fun p => TD a1 a2 a3 a4 a5 a6 p = some r) ?_ ?_
 ·rintro x15 hm
  show H _ (qCh a1 a2 a3 a4 a5 a6 x15) _ _
  refine q_cn x15 (fun b16 => ?_) (fun b16 => ?_)
  ·replace hm := qB b16 hm
   refine q_sq ?_
   refine q_vu [] 3 [0, 1, 4, 5, 8, 9, 36] [(13, vi 0), (14, vb false)] [0, 1] [] ?_
   obtain rfl := Option.some.inj hm
   refine q_rt ?_
   exact q_rm
  ·replace hm := qA b16 hm
   refine q_sk ?_
   refine q_sq ?_
   refine q_vu [] 3 [36] [(15, vp 3 0), (16, vi 0), (17, vb false)] [] [(3, bx 26 [ci 0, ci 0])] ?_
   refine q_sq ?_
   refine q_sq ?_
   refine q_vu [] 4 [] [(18, vi 0)] [] [] ?_
   obtain ⟨o49, h50, hm⟩ := qD hm
   refine zF (nd Tryz.f41 244) 0 (by kernel_rfl) FUEL (fun o => qBG o.1 o.2.1 o.2.2) o49 (q_hl (SC a1 a2 a3 a4 a5 a6 0 false 0 (Span.mk 0 0)) (qGJ E a1 a2 a3 a4 a5 a6 FUEL 0 false 0 (Span.mk 0 0) o49 h50)) ?_
   refine q_sq ?_
   refine q_vn [] 4 ⟨[(12, vp 2 0), (13, vi o49.1), (14, vb o49.2.1)], [(2, bx 26 (e_Span o49.2.2))]⟩ ?_
   obtain rfl := Option.some.inj hm
   refine q_rt ?_
   exact q_rm
 ·obtain ⟨v7, h8, hm⟩ := qD hm
  rcases Bool.eq_false_or_eq_true (!v7) with b9 | b9
  ·replace hm := qB b9 hm
   refine q_vu [qk 1 [22] 3 ⟨[(22, vi a5)], []⟩ (zB a5 1 20000 v7 h8), qf 3 b9] 3 [] [(36, vb true)] [] [] ?_
   exact q_J (true) hm
  ·replace hm := qA b9 hm
   obtain ⟨v10, h11, hm⟩ := qD hm
   rcases Bool.eq_false_or_eq_true (!v10) with b12 | b12
   ·replace hm := qB b12 hm
    refine q_vu [qk 1 [22] 3 ⟨[(22, vi a5)], []⟩ (zB a5 1 20000 v7 h8), qf 3 b9, qk 5 [25, 26] 3 ⟨[(25, vb false), (26, vi a6)], []⟩ (zB a6 0 1000000 v10 h11), qf 8 b12] 3 [] [(36, vb true)] [] [] ?_
    exact q_J (true) hm
   ·replace hm := qA b12 hm
    obtain ⟨v13, h14, hm⟩ := qD hm
    refine q_vu [qk 1 [22] 3 ⟨[(22, vi a5)], []⟩ (zB a5 1 20000 v7 h8), qf 3 b9, qk 5 [25, 26] 3 ⟨[(25, vb false), (26, vi a6)], []⟩ (zB a6 0 1000000 v10 h11), qf 8 b12, qk 12 [30, 31, 32, 33] 3 ⟨[(30, vb false), (31, vc (tl qG default a1)), (32, vc (tl qH default a2)), (33, va (qE a3))], []⟩ (qJx a1 a2 a3 v13 h14)] 3 [] [(36, vb (!v13))] [] [] ?_
    exact q_J (!v13) hm
def qIV (r : Int) : V := vi r
def qIN (r : Int) : List (Nat × (Nat × O)) := []
def OE (a1 : List Slice) (a2 : Box) (x11 : Int) (x12 : Int) (x20 : Int) : St :=
 ⟨[(0, vc (tl qG default a1)), (3, vp 0 0), (5, vi x20), (6, vi x11), (7, vi x12)], [(0, bx 108 (zC a2))]⟩
def BD (a1 : List Slice) (a2 : Box) (x10 : Int) (x11 : Int) (x12 : Int) : St :=
 ⟨[(0, vc (tl qG default a1)), (3, vp 0 0), (5, vi x10), (6, vi x11), (7, vi x12)], [(0, bx 108 (zC a2))]⟩
def CO (x21 : Int) : St :=
 ⟨[(5, vi x21)], []⟩
def CF (a1 : List Slice) (a2 : Box) (x8 : Bool) : St :=
 ⟨[(0, vc (tl qG default a1)), (3, vp 0 0), (39, vb x8)], [(0, bx 108 (zC a2))]⟩
theorem qEF (E : Env 0) (a1 : List Slice) (a2 : Box) : ∀ (n : Nat) (x10 : Int) (x11 : Int) (x12 : Int) (res : Int), yF a1 a2 n x10 x11 x12 = some res → HL (kx E 88 0) (nd Tryz.f71 244) (zN 0 (fun o => CO o) res) n (BD a1 a2 x10 x11 x12) := by
 intro n
 induction n with
 | zero =>
  intro x10 x11 x12 res hm
  cases hm
 | succ n ih =>
  intro x10 x11 x12 res hm
  refine qO ?_
  refine q_sq ?_
  refine q_sq ?_
  refine q_vu [] 1 [] [(43, vb (decide (x12 < ((a1.length : Nat) : Int))))] [] [] ?_
  refine q_cn (decide (x12 < ((a1.length : Nat) : Int))) (fun b13 => ?_) (fun b13 => ?_)
  ·replace hm := qB b13 hm
   refine q_sk ?_
   refine q_sq ?_
   refine q_bk 1 ?_
   refine q_sq ?_
   refine q_vu [] 1 [43] [(8, vp 1 0)] [] [(1, bx 26 [ci (imax a2.Z.A 0), ci (imin a2.Z.B 20000)])] ?_
   refine q_sq ?_
   obtain ⟨g14, hm⟩ := qI hm
   obtain ⟨v15, h16, hm⟩ := qD hm
   refine q_du [qd 4 (Dir.none) (inb_of g14), qc 7 [55, 56, 61] 2 (qD6 (Span.mk (imax a2.Z.A 0) (imin a2.Z.B 20000)) x11 ((a1.getD x12.toNat default).Len) v15 h16)] [0, 0, 0, 0, 12, 28, 60, 127, 255] 2 [8] [(9, vi v15)] [1] [] ?_
   refine q_jn (ι := Int) (fun p => OE a1 a2 x11 x12 p) (fun p => UU a1 x11 x12 (yF a1 a2 n) p = some res) ?_ ?_
   ·rintro x20 hm
    show H _ (OE a1 a2 x11 x12 x20) _ _
    refine q_vu [qd 3 (Dir.none) (inb_of g14)] 2 [6] [(6, vi (w64 (x11 + ((a1.getD x12.toNat default).Len))))] [] [] ?_
    refine q_vu [] 2 [7] [(7, vi (w64 (x12 + 1)))] [] [] ?_
    exact q_hl (BD a1 a2 x20 (w64 (x11 + ((a1.getD x12.toNat default).Len))) (w64 (x12 + 1))) (ih x20 (w64 (x11 + ((a1.getD x12.toNat default).Len))) (w64 (x12 + 1)) _ hm)
   ·refine q_sq ?_
    refine q_vu [] 2 [] [(64, vb (decide (v15 > 0)))] [] [] ?_
    refine q_cn (decide (v15 > 0)) (fun b17 => ?_) (fun b17 => ?_)
    ·replace hm := qB b17 hm
     obtain ⟨v18, h19, hm⟩ := qD hm
     refine q_du [qd 4 (Dir.none) (inb_of g14), qc 12 [71, 76] 2 (qCf ((a1.getD x12.toNat default).Sec) (Rect.mk a2.X a2.Y) v18 h19)] [0, 0, 0, 0, 12, 28, 60, 0, 128, 0, 512, 1920, 4092, 8190, 16383, 32767] 2 [5, 9, 64] [(5, vi (w64 (x10 + (w64 (v15 * v18)))))] [] [] ?_
     exact q_J (w64 (x10 + (w64 (v15 * v18)))) hm
    ·replace hm := qA b17 hm
     refine q_sk ?_
     exact q_J (x10) hm
  ·replace hm := qA b13 hm
   refine q_ex 0 ?_
   obtain rfl := Option.some.inj hm
   exact zX (by kernel_rfl) (by kernel_rfl)
theorem qG9 (a1 : List Slice) (a2 : Box) (r : Int) (hm : UX a1 a2 = some r) : CtX Tryz.prog globs 71 0 0 [.one (tl qG default a1), .agg (zC a2)] [] (qIV r) (qIN r) := by
 unfold UX at hm
 refine q_E Tryz.f71 88 fun E => ?_
 refine q_sq ?_
 refine q_vn [] 0 ⟨[(0, vc (tl qG default a1)), (3, vp 0 0)], [(0, bx 108 (zC a2))]⟩ ?_
 refine q_sq ?_
 refine q_jn (ι := Bool) (fun p => CF a1 a2 p) (fun p => QW a1 a2 p = some r) ?_ ?_
 ·rintro x8 hm
  show H _ (CF a1 a2 x8) _ _
  refine q_cn x8 (fun b9 => ?_) (fun b9 => ?_)
  ·replace hm := qB b9 hm
   refine q_sq ?_
   refine q_vn [] 1 ⟨[(4, vi 0)], []⟩ ?_
   obtain rfl := Option.some.inj hm
   refine q_rt ?_
   exact q_rm
  ·replace hm := qA b9 hm
   refine q_sk ?_
   refine q_sq ?_
   refine q_vu [] 1 [39] [(5, vi 0), (6, vi 0)] [] [] ?_
   refine q_sq ?_
   refine q_sq ?_
   refine q_vu [] 1 [] [(7, vi 0)] [] [] ?_
   obtain ⟨o22, h23, hm⟩ := qD hm
   refine zF (nd Tryz.f71 244) 0 (by kernel_rfl) FUEL (fun o => CO o) o22 (q_hl (BD a1 a2 0 0 0) (qEF E a1 a2 FUEL 0 0 0 o22 h23)) ?_
   refine q_sq ?_
   refine q_vn [] 1 ⟨[(4, vi o22)], []⟩ ?_
   obtain rfl := Option.some.inj hm
   refine q_rt ?_
   exact q_rm
 ·obtain ⟨v3, h4, hm⟩ := qD hm
  rcases Bool.eq_false_or_eq_true (v3 != 0) with b5 | b5
  ·replace hm := qB b5 hm
   refine q_vu [qc 1 [10] 1 (jF a1 v3 h4), qf 3 b5] 1 [] [(39, vb true)] [] [] ?_
   exact q_J (true) hm
  ·replace hm := qA b5 hm
   rcases Bool.eq_false_or_eq_true (decide (a2.X.A ≥ a2.X.B)) with b6 | b6
   ·replace hm := qB b6 hm
    refine q_vu [qc 1 [10] 1 (jF a1 v3 h4), qf 3 b5, qf 12 b6] 1 [] [(39, vb true)] [] [] ?_
    exact q_J (true) hm
   ·replace hm := qA b6 hm
    rcases Bool.eq_false_or_eq_true (decide (a2.Y.A ≥ a2.Y.B)) with b7 | b7
    ·replace hm := qB b7 hm
     refine q_vu [qc 1 [10] 1 (jF a1 v3 h4), qf 3 b5, qf 12 b6, qf 21 b7] 1 [] [(39, vb true)] [] [] ?_
     exact q_J (true) hm
    ·replace hm := qA b7 hm
     refine q_vu [qc 1 [10] 1 (jF a1 v3 h4), qf 3 b5, qf 12 b6, qf 21 b7] 1 [] [(39, vb (decide (a2.Z.A ≥ a2.Z.B)))] [] [] ?_
     exact q_J (decide (a2.Z.A ≥ a2.Z.B)) hm
set_option maxRecDepth 100000
def qKI (r : Int) : V := vi r
def qKM (r : Int) : List (Nat × (Nat × O)) := []
theorem DI (a1 : List Slice) (a2 : Rect) (a3 : Span) (r : Int) (hm : JK a1 a2 a3 = some r) : CtX Tryz.prog globs 42 0 0 [.one (tl qG default a1), .agg (qK a2), .agg (e_Span a3)] [] (qKI r) (qKM r) := by
 unfold JK at hm
 refine q_E Tryz.f42 15 fun E => ?_
 refine q_sq ?_
 refine q_vn [] 0 ⟨[(0, vc (tl qG default a1)), (4, vp 0 0), (5, vp 1 0)], [(0, bx 28 (qK a2)), (1, bx 26 (e_Span a3))]⟩ ?_
 refine q_sq ?_
 obtain ⟨v4, h5, hm⟩ := qD hm
 refine q_vn [qc 7 [7, 13] 2 (qG9 a1 (Box.mk a2.X a2.Y a3) v4 h5)] 2 ⟨[(6, vi v4)], []⟩ ?_
 obtain rfl := Option.some.inj hm
 refine q_rt ?_
 exact q_rm
open Go.Proofs
set_option maxHeartbeats 4000000
set_option maxRecDepth 100000
def qJn (r : Int) : V := vi r
def qIE (r : Int) : List (Nat × (Nat × O)) := []
theorem qCk (a1 : List Slice) (a2 : Rect) (r : Int) (hm : KO a1 a2 = some r) : CtX Tryz.prog globs 22 0 0 [.one (tl qG default a1), .agg (qK a2)] [] (qJn r) (qIE r) := by
 unfold KO at hm
 refine q_E Tryz.f22 11 fun E => ?_
 refine q_sq ?_
 refine q_vn [] 0 ⟨[(0, vc (tl qG default a1)), (3, vp 0 0)], [(0, bx 28 (qK a2))]⟩ ?_
 refine q_sq ?_
 obtain ⟨v3, h4, hm⟩ := qD hm
 obtain ⟨v5, h6, hm⟩ := qD hm
 refine q_dn [qc 3 [7] 1 (XA a1 v3 h4), qc 5 [5, 6, 9] 1 (DI a1 a2 (Span.mk 0 v3) v5 h6)] [0, 0, 0, 4, 12, 31, 63] 1 ⟨[(4, vi v5)], []⟩ ?_
 obtain rfl := Option.some.inj hm
 refine q_rt ?_
 exact q_rm
def qLQ (r : Int) : V := vi r
def qLJ (r : Int) : List (Nat × (Nat × O)) := []
theorem qKY (a1 : List Slice) (a2 : List Defect) (a3 : qC) (a4 : Rect) (a5 : Saw) (a6 : Rates) (r : Int) (hm : MH a1 a2 a3 a4 a5 a6 = some r) : CtX Tryz.prog globs 20 0 0 [.one (tl qG default a1), .one (tl qH default a2), .agg (qE a3), .agg (qK a4), .agg (zY a5), .agg (qW a6)] [] (qLQ r) (qLJ r) := by
 unfold MH at hm
 refine q_E Tryz.f20 80 fun E => ?_
 refine q_sq ?_
 refine q_vn [] 0 ⟨[(0, vc (tl qG default a1)), (1, vc (tl qH default a2)), (8, vp 0 0), (9, vp 1 0), (10, vp 2 0), (11, vp 3 0)], [(0, bx 58 (qE a3)), (1, bx 28 (qK a4)), (2, bx 30 (zY a5)), (3, bx 32 (qW a6))]⟩ ?_
 refine q_sq ?_
 obtain ⟨v7, h8, hm⟩ := qD hm
 refine q_vu [qc 8 [18, 19, 20, 21, 23, 25] 4 (qKV a1 a2 a3 a4 a5.Step a6.Fine v7 h8)] 4 [1, 8] [(13, vp 4 0), (14, vi v7.2.1), (15, vb v7.2.2)] [0] [(4, bx 26 (e_Span v7.1))] ?_
 refine q_sq ?_
 refine q_sq ?_
 refine q_vu [] 5 [15] [(31, vb (!v7.2.2))] [] [] ?_
 refine q_cn (!v7.2.2) (fun b9 => ?_) (fun b9 => ?_)
 ·replace hm := qB b9 hm
  refine q_sq ?_
  refine q_vn [] 5 ⟨[(12, vi (-1))], []⟩ ?_
  obtain rfl := Option.some.inj hm
  refine q_rt ?_
  exact q_rm
 ·replace hm := qA b9 hm
  refine q_sk ?_
  refine q_sq ?_
  obtain ⟨v10, h11, hm⟩ := qD hm
  obtain ⟨v12, h13, hm⟩ := qD hm
  obtain ⟨v14, h15, hm⟩ := qD hm
  refine q_du [qc 11 [32, 33, 42] 5 (DI a1 a4 (Span.mk (imax 0 (w64 (v7.1.A - a5.Trim))) v7.1.A) v10 h11), qc 22 [53] 5 (XA a1 v12 h13), qc 25 [44, 45, 56] 5 (DI a1 a4 (Span.mk v7.1.B (imin (w64 (v7.1.B + a5.Trim)) v12)) v14 h15)] [0, 0, 0, 4, 0, 16, 60, 124, 0, 256, 1020, 2047, 0, 0, 0, 16384, 0, 65536, 0, 262144, 983040, 0, 2101247, 8327167, 16764927, 33554431, 67108863, 134217727] 5 [10, 31] [(16, vi (w64 (v10 + v14)))] [2] [] ?_
  refine q_sq ?_
  obtain ⟨v16, h17, hm⟩ := qD hm
  obtain ⟨v18, h19, hm⟩ := qD hm
  refine q_dn [qc 11 [68, 69] 5 (qCk a1 a4 v16 h17), qc 15 [71, 72, 73] 5 (DI a1 a4 v7.1 v18 h19)] [0, 1, 0, 4, 0, 28, 63, 0, 128, 0, 0, 1536, 0, 0, 0, 32256, 65024, 0, 261632, 524160, 1048575, 2097151] 5 ⟨[(12, vi (w64 ((w64 ((w64 (1000000 * v7.2.1)) + (w64 (a6.Dust * (w64 (v10 + v14)))))) + (w64 (a6.Chip * (w64 ((w64 (v16 - v18)) - (w64 (v10 + v14)))))))))], []⟩ ?_
  obtain rfl := Option.some.inj hm
  refine q_rt ?_
  exact q_rm
set_option maxRecDepth 100000
def qKP (r : Int) : V := vi r
def qLf (r : Int) : List (Nat × (Nat × O)) := []
def qA6 (x24 : Bool) : St :=
 ⟨[(42, vb x24)], []⟩
def qBu (a2 : Rates) (x14 : Bool) : St :=
 ⟨[(3, vp 1 0), (26, vb x14)], [(1, bx 32 (qW a2))]⟩
theorem qIH (a1 : Saw) (a2 : Rates) (r : Int) (hm : NG a1 a2 = some r) : CtX Tryz.prog globs 38 0 0 [.agg (zY a1), .agg (qW a2)] [] (qKP r) (qLf r) := by
 unfold NG at hm
 refine q_E Tryz.f38 43 fun E => ?_
 refine q_sq ?_
 refine q_vn [] 0 ⟨[(2, vp 0 0), (3, vp 1 0)], [(0, bx 30 (zY a1)), (1, bx 32 (qW a2))]⟩ ?_
 refine q_sq ?_
 refine q_jn (ι := Bool) (fun p => qBu a2 p) (fun p => JZ a2 p = some r) ?_ ?_
 ·rintro x14 hm
  show H _ (qBu a2 x14) _ _
  refine q_cn x14 (fun b15 => ?_) (fun b15 => ?_)
  ·replace hm := qB b15 hm
   refine q_sq ?_
   refine q_vn [] 2 ⟨[(4, vi 9)], []⟩ ?_
   obtain rfl := Option.some.inj hm
   refine q_rt ?_
   exact q_rm
  ·replace hm := qA b15 hm
   refine q_sk ?_
   refine q_sq ?_
   refine q_jn (ι := Bool) (fun p => qA6 p) (fun p => PK p = some r) ?_ ?_
   ·rintro x24 hm
    show H _ (qA6 x24) _ _
    refine q_cn x24 (fun b25 => ?_) (fun b25 => ?_)
    ·replace hm := qB b25 hm
     refine q_sq ?_
     refine q_vn [] 2 ⟨[(4, vi 9)], []⟩ ?_
     obtain rfl := Option.some.inj hm
     refine q_rt ?_
     exact q_rm
    ·replace hm := qA b25 hm
     refine q_sk ?_
     refine q_sq ?_
     refine q_vn [] 2 ⟨[(4, vi 0)], []⟩ ?_
     obtain rfl := Option.some.inj hm
     refine q_rt ?_
     exact q_rm
   ·obtain ⟨v16, h17, hm⟩ := qD hm
    rcases Bool.eq_false_or_eq_true (!v16) with b18 | b18
    ·replace hm := qB b18 hm
     refine q_vn [qk 2 [28] 2 ⟨[(28, vi a2.Chip)], []⟩ (zB a2.Chip 0 1000 v16 h17), qf 4 b18] 2 ⟨[(42, vb true)], []⟩ ?_
     exact q_J (true) hm
    ·replace hm := qA b18 hm
     obtain ⟨v19, h20, hm⟩ := qD hm
     rcases Bool.eq_false_or_eq_true (!v19) with b21 | b21
     ·replace hm := qB b21 hm
      refine q_vn [qk 2 [28] 2 ⟨[(28, vi a2.Chip)], []⟩ (zB a2.Chip 0 1000 v16 h17), qf 4 b18, qk 7 [31, 33] 2 ⟨[(31, vb false), (33, vi a2.Dust)], []⟩ (zB a2.Dust 0 1000 v19 h20), qf 10 b21] 2 ⟨[(42, vb true)], []⟩ ?_
      exact q_J (true) hm
     ·replace hm := qA b21 hm
      obtain ⟨v22, h23, hm⟩ := qD hm
      refine q_vn [qk 2 [28] 2 ⟨[(28, vi a2.Chip)], []⟩ (zB a2.Chip 0 1000 v16 h17), qf 4 b18, qk 7 [31, 33] 2 ⟨[(31, vb false), (33, vi a2.Dust)], []⟩ (zB a2.Dust 0 1000 v19 h20), qf 10 b21, qk 13 [37, 39] 2 ⟨[(37, vb false), (39, vi a2.Fine)], []⟩ (zB a2.Fine 0 1000000 v22 h23)] 2 ⟨[(42, vb (!v22))], []⟩ ?_
      exact q_J (!v22) hm
 ·obtain ⟨v3, h4, hm⟩ := qD hm
  rcases Bool.eq_false_or_eq_true (!v3) with b5 | b5
  ·replace hm := qB b5 hm
   refine q_vu [qk 2 [6] 2 ⟨[(6, vi a1.Kerf)], []⟩ (zB a1.Kerf 0 20 v3 h4), qf 4 b5] 2 [2] [(26, vb true)] [0] [] ?_
   exact q_J (true) hm
  ·replace hm := qA b5 hm
   obtain ⟨v6, h7, hm⟩ := qD hm
   rcases Bool.eq_false_or_eq_true (!v6) with b8 | b8
   ·replace hm := qB b8 hm
    refine q_vu [qk 2 [6] 2 ⟨[(6, vi a1.Kerf)], []⟩ (zB a1.Kerf 0 20 v3 h4), qf 4 b5, qk 7 [9, 11] 2 ⟨[(9, vb false), (11, vi a1.Trim)], []⟩ (zB a1.Trim 0 20 v6 h7), qf 10 b8] 2 [2] [(26, vb true)] [0] [] ?_
    exact q_J (true) hm
   ·replace hm := qA b8 hm
    obtain ⟨v9, h10, hm⟩ := qD hm
    rcases Bool.eq_false_or_eq_true (!v9) with b11 | b11
    ·replace hm := qB b11 hm
     refine q_vu [qk 2 [6] 2 ⟨[(6, vi a1.Kerf)], []⟩ (zB a1.Kerf 0 20 v3 h4), qf 4 b5, qk 7 [9, 11] 2 ⟨[(9, vb false), (11, vi a1.Trim)], []⟩ (zB a1.Trim 0 20 v6 h7), qf 10 b8, qk 13 [15, 17] 2 ⟨[(15, vb false), (17, vi a1.Pitch)], []⟩ (zB a1.Pitch 1 2000 v9 h10), qf 16 b11] 2 [2] [(26, vb true)] [0] [] ?_
     exact q_J (true) hm
    ·replace hm := qA b11 hm
     obtain ⟨v12, h13, hm⟩ := qD hm
     refine q_vu [qk 2 [6] 2 ⟨[(6, vi a1.Kerf)], []⟩ (zB a1.Kerf 0 20 v3 h4), qf 4 b5, qk 7 [9, 11] 2 ⟨[(9, vb false), (11, vi a1.Trim)], []⟩ (zB a1.Trim 0 20 v6 h7), qf 10 b8, qk 13 [15, 17] 2 ⟨[(15, vb false), (17, vi a1.Pitch)], []⟩ (zB a1.Pitch 1 2000 v9 h10), qf 16 b11, qk 19 [21, 23] 2 ⟨[(21, vb false), (23, vi a1.Step)], []⟩ (zB a1.Step 1 20000 v12 h13)] 2 [2] [(26, vb (!v12))] [0] [] ?_
     exact q_J (!v12) hm
open Go.Proofs
set_option maxHeartbeats 4000000
set_option maxRecDepth 100000
def qJr (r : Bool) : V := vb r
def qIK (r : Bool) : List (Nat × (Nat × O)) := []
def OL (x5 : Bool) : St :=
 ⟨[(2, vb x5)], []⟩
theorem MS (a1 : Span) (r : Bool) (hm : PP a1 = some r) : CtX Tryz.prog globs 39 0 0 [.agg (e_Span a1)] [] (qJr r) (qIK r) := by
 unfold PP at hm
 refine q_E Tryz.f39 21 fun E => ?_
 refine q_sq ?_
 refine q_vn [] 0 ⟨[(1, vp 0 0)], [(0, bx 26 (e_Span a1))]⟩ ?_
 refine q_jn (ι := Bool) (fun p => OL p) (fun p => WN p = some r) ?_ ?_
 ·rintro x5 hm
  show H _ (OL x5) _ _
  obtain rfl := Option.some.inj hm
  refine q_rt ?_
  exact q_rm
 ·rcases Bool.eq_false_or_eq_true (decide (a1.A < (-600))) with b2 | b2
  ·replace hm := qB b2 hm
   refine q_vn [qf 3 b2] 1 ⟨[(2, vb true)], []⟩ ?_
   exact q_J (true) hm
  ·replace hm := qA b2 hm
   rcases Bool.eq_false_or_eq_true (decide (a1.A > 600)) with b3 | b3
   ·replace hm := qB b3 hm
    refine q_vn [qf 3 b2, qf 8 b3] 1 ⟨[(2, vb true)], []⟩ ?_
    exact q_J (true) hm
   ·replace hm := qA b3 hm
    rcases Bool.eq_false_or_eq_true (decide (a1.B < (-600))) with b4 | b4
    ·replace hm := qB b4 hm
     refine q_vn [qf 3 b2, qf 8 b3, qf 13 b4] 1 ⟨[(2, vb true)], []⟩ ?_
     exact q_J (true) hm
    ·replace hm := qA b4 hm
     refine q_vn [qf 3 b2, qf 8 b3, qf 13 b4] 1 ⟨[(2, vb (decide (a1.B > 600)))], []⟩ ?_
     exact q_J (decide (a1.B > 600)) hm
end Saw
end Go.SL
