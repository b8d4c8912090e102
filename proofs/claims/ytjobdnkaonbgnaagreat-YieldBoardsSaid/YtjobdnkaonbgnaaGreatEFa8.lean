import Derived.Test.YtjobdnkaonbgnaaGreatEBase
import Derived.Test.YtjobdnkaonbgnaaGreatEFa7
set_option linter.unusedVariables false
set_option linter.unusedSimpArgs false
namespace Go.SL
namespace Saw
open Go.Proofs
set_option maxHeartbeats 4000000
set_option maxRecDepth 100000
def UK (r : Int) : V := vi r
def UQ (r : Int) : List (Nat × (Nat × O)) := []
def qBa (a1 : qK) (x6 : Int) (x14 : Bool) : St :=
 ⟨[(1, vp 0 0), (3, vi ((a1.Rows.length : Nat) : Int)), (4, vi x6), (41, vb x14)], [(0, bx 57 (qZ a1))]⟩
def MD (a1 : qK) (x6 : Int) : St :=
 ⟨[(1, vp 0 0), (3, vi ((a1.Rows.length : Nat) : Int)), (4, vi x6)], [(0, bx 57 (qZ a1))]⟩
def qBt (a1 : qK) : St :=
 ⟨[(1, vp 0 0), (3, vi ((a1.Rows.length : Nat) : Int))], [(0, bx 57 (qZ a1))]⟩
def qAX (a1 : qK) (x31 : Int) (x37 : Bool) : St :=
 ⟨[(1, vp 0 0), (3, vi ((a1.Rows.length : Nat) : Int)), (5, vi x31), (80, vb x37)], [(0, bx 57 (qZ a1))]⟩
def MW (a1 : qK) (x31 : Int) : St :=
 ⟨[(1, vp 0 0), (3, vi ((a1.Rows.length : Nat) : Int)), (5, vi x31)], [(0, bx 57 (qZ a1))]⟩
def qBx : St :=
 ⟨[], []⟩
def qBe (a1 : qK) (x29 : Bool) : St :=
 ⟨[(1, vp 0 0), (3, vi ((a1.Rows.length : Nat) : Int)), (60, vb x29)], [(0, bx 57 (qZ a1))]⟩
def qAR (a1 : qK) (x4 : Bool) : St :=
 ⟨[(1, vp 0 0), (3, vi ((a1.Rows.length : Nat) : Int)), (20, vb x4)], [(0, bx 57 (qZ a1))]⟩
theorem qF3 (E : Env 0) (a1 : qK) : ∀ (n : Nat) (x6 : Int) (res : Int ⊕ Unit), jX a1 n x6 = some res → HL (kx E 81 0) (nd Tryz.f69 500) (wI 0 (fun o => qBt a1) (fun v st => RetQ Tryz.prog Tryz.f69 (UK v) (UQ v) .ret st) res) n (MD a1 x6) := by
 intro n
 induction n with
 | zero =>
  intro x6 res hm
  cases hm
 | succ n ih =>
  intro x6 res hm
  refine qR ?_
  refine q_sq ?_
  refine q_sq ?_
  refine q_vu [] 1 [] [(23, vb (decide (x6 < ((a1.Rows.length : Nat) : Int))))] [] [] ?_
  refine q_cn (decide (x6 < ((a1.Rows.length : Nat) : Int))) (fun b7 => ?_) (fun b7 => ?_)
  ·replace hm := qC b7 hm
   refine q_sk ?_
   refine q_sq ?_
   refine q_bk 1 ?_
   refine q_jn (ι := Bool) (fun p => qBa a1 x6 p) (fun p => BZ x6 (jX a1 n) p = some res) ?_ ?_
   ·rintro x14 hm
    show H _ (qBa a1 x6 x14) _ _
    refine q_cn x14 (fun b15 => ?_) (fun b15 => ?_)
    ·replace hm := qC b15 hm
     refine q_sq ?_
     refine q_vn [] 1 ⟨[(2, vi 9)], []⟩ ?_
     obtain rfl := Option.some.inj hm
     refine q_rt ?_
     refine qY 9 ?_
     exact q_rm
    ·replace hm := qB b15 hm
     refine q_sk ?_
     refine q_vu [] 1 [4, 41] [(4, vi (w64 (x6 + 1)))] [] [] ?_
     exact q_hl (MD a1 (w64 (x6 + 1))) (ih (w64 (x6 + 1)) _ hm)
   ·obtain ⟨g8, hm⟩ := qL hm
    obtain ⟨v9, h10, hm⟩ := qD hm
    rcases Bool.eq_false_or_eq_true v9 with b11 | b11
    ·replace hm := qC b11 hm
     refine q_vu [qd 3 (Dir.none) (inb_of g8), qc 6 [31] 1 (HP ((a1.Rows.getD x6.toNat default).A) v9 h10), qf 7 b11] 1 [23] [(41, vb true)] [] [] ?_
     exact q_J (true) hm
    ·replace hm := qB b11 hm
     obtain ⟨v12, h13, hm⟩ := qD hm
     refine q_vu [qd 3 (Dir.none) (inb_of g8), qc 6 [31] 1 (HP ((a1.Rows.getD x6.toNat default).A) v9 h10), qf 7 b11, qd 11 (Dir.none) (inb_of g8), qk 14 [33, 39] 1 ⟨[(33, vb false), (39, vi ((a1.Rows.getD x6.toNat default).B))], []⟩ (HP ((a1.Rows.getD x6.toNat default).B) v12 h13)] 1 [23] [(41, vb v12)] [] [] ?_
     exact q_J (v12) hm
  ·replace hm := qB b7 hm
   refine q_ex 0 ?_
   obtain rfl := Option.some.inj hm
   exact wJ () (by kernel_rfl) (by kernel_rfl)
theorem qFB (E : Env 0) (a1 : qK) : ∀ (n : Nat) (x31 : Int) (res : Int ⊕ Unit), jT a1 n x31 = some res → HL (kx E 81 0) (nd Tryz.f69 4084) (wI 2 (fun o => qBx) (fun v st => RetQ Tryz.prog Tryz.f69 (UK v) (UQ v) .ret st) res) n (MW a1 x31) := by
 intro n
 induction n with
 | zero =>
  intro x31 res hm
  cases hm
 | succ n ih =>
  intro x31 res hm
  refine qR ?_
  refine q_sq ?_
  refine q_sq ?_
  refine q_vu [] 1 [] [(63, vb (decide (x31 < ((a1.Rows.length : Nat) : Int))))] [] [] ?_
  refine q_cn (decide (x31 < ((a1.Rows.length : Nat) : Int))) (fun b32 => ?_) (fun b32 => ?_)
  ·replace hm := qC b32 hm
   refine q_sk ?_
   refine q_sq ?_
   refine q_bk 3 ?_
   refine q_jn (ι := Bool) (fun p => qAX a1 x31 p) (fun p => NL x31 (jT a1 n) p = some res) ?_ ?_
   ·rintro x37 hm
    show H _ (qAX a1 x31 x37) _ _
    refine q_cn x37 (fun b38 => ?_) (fun b38 => ?_)
    ·replace hm := qC b38 hm
     refine q_sq ?_
     refine q_vn [] 1 ⟨[(2, vi 19)], []⟩ ?_
     obtain rfl := Option.some.inj hm
     refine q_rt ?_
     refine qY 19 ?_
     exact q_rm
    ·replace hm := qB b38 hm
     refine q_sk ?_
     refine q_vu [] 1 [5, 80] [(5, vi (w64 (x31 + 1)))] [] [] ?_
     exact q_hl (MW a1 (w64 (x31 + 1))) (ih (w64 (x31 + 1)) _ hm)
   ·obtain ⟨g33, hm⟩ := qL hm
    obtain ⟨v34, h35, hm⟩ := qD hm
    rcases Bool.eq_false_or_eq_true v34 with b36 | b36
    ·replace hm := qC b36 hm
     refine q_vu [qd 3 (Dir.none) (inb_of g33), qc 5 [70] 1 (ZR (a1.Rows.getD x31.toNat default) v34 h35), qf 6 b36, qd 10 (Dir.none) (inb_of g33)] 1 [63] [(80, vb (!((((a1.Rows.getD x31.toNat default).A) == 0) && ((((a1.Rows.getD x31.toNat default).B) == 0) && true))))] [] [] ?_
     exact q_J (!((((a1.Rows.getD x31.toNat default).A) == 0) && ((((a1.Rows.getD x31.toNat default).B) == 0) && true))) hm
    ·replace hm := qB b36 hm
     refine q_vu [qd 3 (Dir.none) (inb_of g33), qc 5 [70] 1 (ZR (a1.Rows.getD x31.toNat default) v34 h35), qf 6 b36] 1 [63] [(80, vb false)] [] [] ?_
     exact q_J (false) hm
  ·replace hm := qB b32 hm
   refine q_ex 2 ?_
   obtain rfl := Option.some.inj hm
   exact wJ () (by kernel_rfl) (by kernel_rfl)
theorem qC2 (a1 : qK) (r : Int) (hm : VB a1 = some r) : CtX Tryz.prog globs 69 0 0 [.agg (qZ a1)] [] (UK r) (UQ r) := by
 unfold VB at hm
 refine q_E Tryz.f69 81 fun E => ?_
 refine q_sq ?_
 refine q_vn [] 0 ⟨[(1, vp 0 0)], [(0, bx 57 (qZ a1))]⟩ ?_
 refine q_sq ?_
 refine q_vu [] 1 [] [(3, vi ((a1.Rows.length : Nat) : Int))] [] [] ?_
 refine q_sq ?_
 refine q_sq ?_
 refine q_vu [] 1 [] [(10, vb (decide (((a1.Rows.length : Nat) : Int) > 120)))] [] [] ?_
 refine q_cn (decide (((a1.Rows.length : Nat) : Int) > 120)) (fun b2 => ?_) (fun b2 => ?_)
 ·replace hm := qC b2 hm
  refine q_sq ?_
  refine q_vn [] 1 ⟨[(2, vi 4)], []⟩ ?_
  obtain rfl := Option.some.inj hm
  refine q_rt ?_
  exact q_rm
 ·replace hm := qB b2 hm
  refine q_sk ?_
  refine q_sq ?_
  refine q_jn (ι := Bool) (fun p => qAR a1 p) (fun p => BR a1 p = some r) ?_ ?_
  ·rintro x4 hm
   show H _ (qAR a1 x4) _ _
   refine q_cn x4 (fun b5 => ?_) (fun b5 => ?_)
   ·replace hm := qC b5 hm
    refine q_sq ?_
    refine q_vn [] 1 ⟨[(2, vi 9)], []⟩ ?_
    obtain rfl := Option.some.inj hm
    refine q_rt ?_
    exact q_rm
   ·replace hm := qB b5 hm
    refine q_sk ?_
    refine q_sq ?_
    refine q_sq ?_
    refine q_vu [] 1 [20] [(4, vi 0)] [] [] ?_
    obtain ⟨u18, h17, hm⟩ := qD hm
    refine zM (nd Tryz.f69 500) 0 (by kernel_rfl) FUEL (fun o => qBt a1) (fun v st => RetQ Tryz.prog Tryz.f69 (UK v) (UQ v) .ret st) u18 (q_hl (MD a1 0) (qF3 E a1 FUEL 0 u18 h17)) ?_ ?_
    ·rintro v19 rfl st hr
     obtain rfl := Option.some.inj hm
     exact hr
    ·rintro o16 rfl
     replace hm : _ = some r := hm
     refine q_sq ?_
     refine q_sq ?_
     refine q_vu [] 1 [] [(43, vb (((a1.Rows.length : Nat) : Int) == 0))] [] [] ?_
     refine q_cn (((a1.Rows.length : Nat) : Int) == 0) (fun b20 => ?_) (fun b20 => ?_)
     ·replace hm := qC b20 hm
      refine q_sq ?_
      refine q_sq ?_
      refine q_vn [] 1 ⟨[(46, vb (a1.Low != 0))], []⟩ ?_
      refine q_cn (a1.Low != 0) (fun b21 => ?_) (fun b21 => ?_)
      ·replace hm := qC b21 hm
       refine q_sq ?_
       refine q_vn [] 1 ⟨[(2, vi 19)], []⟩ ?_
       obtain rfl := Option.some.inj hm
       refine q_rt ?_
       exact q_rm
      ·replace hm := qB b21 hm
       refine q_sk ?_
       refine q_sq ?_
       refine q_vn [] 1 ⟨[(2, vi 0)], []⟩ ?_
       obtain rfl := Option.some.inj hm
       refine q_rt ?_
       exact q_rm
     ·replace hm := qB b20 hm
      refine q_sk ?_
      refine q_sq ?_
      refine q_jn (ι := Bool) (fun p => qBe a1 p) (fun p => BP a1 p = some r) ?_ ?_
      ·rintro x29 hm
       show H _ (qBe a1 x29) _ _
       refine q_cn x29 (fun b30 => ?_) (fun b30 => ?_)
       ·replace hm := qC b30 hm
        refine q_sq ?_
        refine q_vn [] 1 ⟨[(2, vi 19)], []⟩ ?_
        obtain rfl := Option.some.inj hm
        refine q_rt ?_
        exact q_rm
       ·replace hm := qB b30 hm
        refine q_sk ?_
        refine q_sq ?_
        refine q_sq ?_
        refine q_vu [] 1 [60] [(5, vi 0)] [] [] ?_
        obtain ⟨u41, h40, hm⟩ := qD hm
        refine zM (nd Tryz.f69 4084) 2 (by kernel_rfl) FUEL (fun o => qBx) (fun v st => RetQ Tryz.prog Tryz.f69 (UK v) (UQ v) .ret st) u41 (q_hl (MW a1 0) (qFB E a1 FUEL 0 u41 h40)) ?_ ?_
        ·rintro v42 rfl st hr
         obtain rfl := Option.some.inj hm
         exact hr
        ·rintro o39 rfl
         replace hm : _ = some r := hm
         refine q_sq ?_
         refine q_vn [] 1 ⟨[(2, vi 0)], []⟩ ?_
         obtain rfl := Option.some.inj hm
         refine q_rt ?_
         exact q_rm
      ·obtain ⟨g22, hm⟩ := qL hm
       obtain ⟨v23, h24, hm⟩ := qD hm
       rcases Bool.eq_false_or_eq_true v23 with b25 | b25
       ·replace hm := qC b25 hm
        refine q_vu [qd 2 (Dir.none) (inb_of g22), qc 4 [50] 1 (ZR (a1.Rows.getD (0 : Int).toNat default) v23 h24), qf 5 b25] 1 [43] [(60, vb true)] [] [] ?_
        exact q_J (true) hm
       ·replace hm := qB b25 hm
        obtain ⟨g26, hm⟩ := qL hm
        obtain ⟨v27, h28, hm⟩ := qD hm
        refine q_vu [qd 2 (Dir.none) (inb_of g22), qc 4 [50] 1 (ZR (a1.Rows.getD (0 : Int).toNat default) v23 h24), qf 5 b25, qd 10 (Dir.none) (inb_of g26), qk 12 [52, 58] 1 ⟨[(52, vb false), (58, va [ci ((a1.Rows.getD (w64 (((a1.Rows.length : Nat) : Int) - 1)).toNat default).A), ci ((a1.Rows.getD (w64 (((a1.Rows.length : Nat) : Int) - 1)).toNat default).B)])], []⟩ (ZR (a1.Rows.getD (w64 (((a1.Rows.length : Nat) : Int) - 1)).toNat default) v27 h28)] 1 [43] [(60, vb v27)] [] [] ?_
        exact q_J (v27) hm
  ·rcases Bool.eq_false_or_eq_true (decide (a1.Low < (-60))) with b3 | b3
   ·replace hm := qC b3 hm
    refine q_vu [qf 3 b3] 1 [10] [(20, vb true)] [] [] ?_
    exact q_J (true) hm
   ·replace hm := qB b3 hm
    refine q_vu [qf 3 b3] 1 [10] [(20, vb (decide (a1.Low > (w64 (60 - ((a1.Rows.length : Nat) : Int))))))] [] [] ?_
    exact q_J (decide (a1.Low > (w64 (60 - ((a1.Rows.length : Nat) : Int))))) hm
def OZ (r : Int) : V := vi r
def CB (r : Int) : List (Nat × (Nat × O)) := []
def qBl (a1 : List Slice) (x4 : Int) (x5 : Int) (x13 : Bool) : St :=
 ⟨[(0, vc (tl qI default a1)), (3, vi x4), (4, vi x5), (50, vb x13)], []⟩
def LZ (a1 : List Slice) (x4 : Int) (x5 : Int) : St :=
 ⟨[(0, vc (tl qI default a1)), (3, vi x4), (4, vi x5)], []⟩
def qAP : St :=
 ⟨[], []⟩
theorem qFR (E : Env 0) (a1 : List Slice) : ∀ (n : Nat) (x4 : Int) (x5 : Int) (res : Int ⊕ Unit), jV a1 n x4 x5 = some res → HL (kx E 58 0) (nd Tryz.f35 500) (wI 0 (fun o => qAP) (fun v st => RetQ Tryz.prog Tryz.f35 (OZ v) (CB v) .ret st) res) n (LZ a1 x4 x5) := by
 intro n
 induction n with
 | zero =>
  intro x4 x5 res hm
  cases hm
 | succ n ih =>
  intro x4 x5 res hm
  refine qR ?_
  refine q_sq ?_
  refine q_sq ?_
  refine q_vu [] 0 [] [(15, vb (decide (x5 < ((a1.length : Nat) : Int))))] [] [] ?_
  refine q_cn (decide (x5 < ((a1.length : Nat) : Int))) (fun b6 => ?_) (fun b6 => ?_)
  ·replace hm := qC b6 hm
   refine q_sk ?_
   refine q_sq ?_
   refine q_bk 1 ?_
   refine q_sq ?_
   refine q_sq ?_
   obtain ⟨g7, hm⟩ := qL hm
   obtain ⟨v8, h9, hm⟩ := qD hm
   refine q_vu [qd 2 (Dir.none) (inb_of g7), qc 5 [22] 0 (qC2 ((a1.getD x5.toNat default).Sec) v8 h9)] 0 [15] [(5, vi v8)] [] [] ?_
   refine q_sq ?_
   refine q_vu [] 0 [] [(25, vb (v8 != 0))] [] [] ?_
   refine q_cn (v8 != 0) (fun b10 => ?_) (fun b10 => ?_)
   ·replace hm := qC b10 hm
    refine q_sq ?_
    refine q_vn [] 0 ⟨[(2, vi v8)], []⟩ ?_
    obtain rfl := Option.some.inj hm
    refine q_rt ?_
    refine qY v8 ?_
    exact q_rm
   ·replace hm := qB b10 hm
    refine q_sk ?_
    refine q_sq ?_
    refine q_sq ?_
    refine q_vu [qd 2 (Dir.none) (inb_of g7)] 0 [5, 25] [(34, vb ((((((a1.getD x5.toNat default).Sec).Rows).length : Nat) : Int) == 0))] [] [] ?_
    refine q_cn ((((((a1.getD x5.toNat default).Sec).Rows).length : Nat) : Int) == 0) (fun b11 => ?_) (fun b11 => ?_)
    ·replace hm := qC b11 hm
     refine q_sq ?_
     refine q_vn [] 0 ⟨[(2, vi 18)], []⟩ ?_
     obtain rfl := Option.some.inj hm
     refine q_rt ?_
     refine qY 18 ?_
     exact q_rm
    ·replace hm := qB b11 hm
     refine q_sk ?_
     refine q_sq ?_
     refine q_jn (ι := Bool) (fun p => qBl a1 x4 x5 p) (fun p => BQ a1 x4 x5 (jV a1 n) p = some res) ?_ ?_
     ·rintro x13 hm
      show H _ (qBl a1 x4 x5 x13) _ _
      refine q_cn x13 (fun b14 => ?_) (fun b14 => ?_)
      ·replace hm := qC b14 hm
       refine q_sq ?_
       refine q_vn [] 0 ⟨[(2, vi 9)], []⟩ ?_
       obtain rfl := Option.some.inj hm
       refine q_rt ?_
       refine qY 9 ?_
       exact q_rm
      ·replace hm := qB b14 hm
       refine q_sk ?_
       refine q_vu [qd 3 (Dir.none) (inb_of g7)] 0 [3, 50] [(3, vi (w64 (x4 + ((a1.getD x5.toNat default).Len))))] [] [] ?_
       refine q_vu [] 0 [4] [(4, vi (w64 (x5 + 1)))] [] [] ?_
       exact q_hl (LZ a1 (w64 (x4 + ((a1.getD x5.toNat default).Len))) (w64 (x5 + 1))) (ih (w64 (x4 + ((a1.getD x5.toNat default).Len))) (w64 (x5 + 1)) _ hm)
     ·rcases Bool.eq_false_or_eq_true (decide (((a1.getD x5.toNat default).Len) < 1)) with b12 | b12
      ·replace hm := qC b12 hm
       refine q_vu [qd 2 (Dir.none) (inb_of g7), qf 6 b12] 0 [34] [(50, vb true)] [] [] ?_
       exact q_J (true) hm
      ·replace hm := qB b12 hm
       refine q_vu [qd 2 (Dir.none) (inb_of g7), qf 6 b12, qd 9 (Dir.none) (inb_of g7)] 0 [34] [(50, vb (decide (((a1.getD x5.toNat default).Len) > (w64 (20000 - x4)))))] [] [] ?_
       exact q_J (decide (((a1.getD x5.toNat default).Len) > (w64 (20000 - x4)))) hm
  ·replace hm := qB b6 hm
   refine q_ex 0 ?_
   obtain rfl := Option.some.inj hm
   exact wJ () (by kernel_rfl) (by kernel_rfl)
theorem YD (a1 : List Slice) (r : Int) (hm : JU a1 = some r) : CtX Tryz.prog globs 35 0 0 [.one (tl qI default a1)] [] (OZ r) (CB r) := by
 unfold JU at hm
 refine q_E Tryz.f35 58 fun E => ?_
 refine q_sq ?_
 refine q_vn [] 0 ⟨[(0, vc (tl qI default a1))], []⟩ ?_
 refine q_sq ?_
 refine q_sq ?_
 refine q_vu [] 0 [] [(8, vb (((a1.length : Nat) : Int) == 0))] [] [] ?_
 refine q_cn (((a1.length : Nat) : Int) == 0) (fun b2 => ?_) (fun b2 => ?_)
 ·replace hm := qC b2 hm
  refine q_sq ?_
  refine q_vn [] 0 ⟨[(2, vi 3)], []⟩ ?_
  obtain rfl := Option.some.inj hm
  refine q_rt ?_
  exact q_rm
 ·replace hm := qB b2 hm
  refine q_sk ?_
  refine q_sq ?_
  refine q_sq ?_
  refine q_vu [] 0 [8] [(11, vb (decide (((a1.length : Nat) : Int) > 24)))] [] [] ?_
  refine q_cn (decide (((a1.length : Nat) : Int) > 24)) (fun b3 => ?_) (fun b3 => ?_)
  ·replace hm := qC b3 hm
   refine q_sq ?_
   refine q_vn [] 0 ⟨[(2, vi 4)], []⟩ ?_
   obtain rfl := Option.some.inj hm
   refine q_rt ?_
   exact q_rm
  ·replace hm := qB b3 hm
   refine q_sk ?_
   refine q_sq ?_
   refine q_vu [] 0 [11] [(3, vi 0)] [] [] ?_
   refine q_sq ?_
   refine q_sq ?_
   refine q_vu [] 0 [] [(4, vi 0)] [] [] ?_
   obtain ⟨u17, h16, hm⟩ := qD hm
   refine zM (nd Tryz.f35 500) 0 (by kernel_rfl) FUEL (fun o => qAP) (fun v st => RetQ Tryz.prog Tryz.f35 (OZ v) (CB v) .ret st) u17 (q_hl (LZ a1 0 0) (qFR E a1 FUEL 0 0 u17 h16)) ?_ ?_
   ·rintro v18 rfl st hr
    obtain rfl := Option.some.inj hm
    exact hr
   ·rintro o15 rfl
    replace hm : _ = some r := hm
    refine q_sq ?_
    refine q_vn [] 0 ⟨[(2, vi 0)], []⟩ ?_
    obtain rfl := Option.some.inj hm
    refine q_rt ?_
    exact q_rm
set_option maxRecDepth 100000
def qIU (r : Int) : V := vi r
def qJv (r : Int) : List (Nat × (Nat × O)) := []
def NX (a1 : List Slice) (x5 : Int) (x6 : Int) : St :=
 ⟨[(0, vc (tl qI default a1)), (3, vi x5), (4, vi x6)], []⟩
def CW (x9 : Int) : St :=
 ⟨[(3, vi x9)], []⟩
theorem qFh (E : Env 0) (a1 : List Slice) : ∀ (n : Nat) (x5 : Int) (x6 : Int) (res : Int), QW a1 n x5 x6 = some res → HL (kx E 22 0) (nd Tryz.f43 244) (wE 0 (fun o => CW o) res) n (NX a1 x5 x6) := by
 intro n
 induction n with
 | zero =>
  intro x5 x6 res hm
  cases hm
 | succ n ih =>
  intro x5 x6 res hm
  refine qR ?_
  refine q_sq ?_
  refine q_sq ?_
  refine q_vu [] 0 [] [(11, vb (decide (x6 < ((a1.length : Nat) : Int))))] [] [] ?_
  refine q_cn (decide (x6 < ((a1.length : Nat) : Int))) (fun b7 => ?_) (fun b7 => ?_)
  ·replace hm := qC b7 hm
   refine q_sk ?_
   refine q_sq ?_
   refine q_bk 1 ?_
   obtain ⟨g8, hm⟩ := qL hm
   refine q_vu [qd 3 (Dir.none) (inb_of g8)] 0 [3, 11] [(3, vi (w64 (x5 + ((a1.getD x6.toNat default).Len))))] [] [] ?_
   refine q_vu [] 0 [4] [(4, vi (w64 (x6 + 1)))] [] [] ?_
   exact q_hl (NX a1 (w64 (x5 + ((a1.getD x6.toNat default).Len))) (w64 (x6 + 1))) (ih (w64 (x5 + ((a1.getD x6.toNat default).Len))) (w64 (x6 + 1)) _ hm)
  ·replace hm := qB b7 hm
   refine q_ex 0 ?_
   obtain rfl := Option.some.inj hm
   exact jL (by kernel_rfl) (by kernel_rfl)
theorem qB6 (a1 : List Slice) (r : Int) (hm : RK a1 = some r) : CtX Tryz.prog globs 43 0 0 [.one (tl qI default a1)] [] (qIU r) (qJv r) := by
 unfold RK at hm
 refine q_E Tryz.f43 22 fun E => ?_
 refine q_sq ?_
 refine q_vn [] 0 ⟨[(0, vc (tl qI default a1))], []⟩ ?_
 refine q_sq ?_
 refine q_sq ?_
 obtain ⟨v2, h3, hm⟩ := qD hm
 refine q_vu [qc 1 [5] 0 (YD a1 v2 h3)] 0 [] [(7, vb (v2 != 0))] [] [] ?_
 refine q_cn (v2 != 0) (fun b4 => ?_) (fun b4 => ?_)
 ·replace hm := qC b4 hm
  refine q_sq ?_
  refine q_vn [] 0 ⟨[(2, vi 0)], []⟩ ?_
  obtain rfl := Option.some.inj hm
  refine q_rt ?_
  exact q_rm
 ·replace hm := qB b4 hm
  refine q_sk ?_
  refine q_sq ?_
  refine q_vu [] 0 [7] [(3, vi 0)] [] [] ?_
  refine q_sq ?_
  refine q_sq ?_
  refine q_vu [] 0 [] [(4, vi 0)] [] [] ?_
  obtain ⟨o10, h11, hm⟩ := qD hm
  refine zX (nd Tryz.f43 244) 0 (by kernel_rfl) FUEL (fun o => CW o) o10 (q_hl (NX a1 0 0) (qFh E a1 FUEL 0 0 o10 h11)) ?_
  refine q_sq ?_
  refine q_vn [] 0 ⟨[(2, vi o10)], []⟩ ?_
  obtain rfl := Option.some.inj hm
  refine q_rt ?_
  exact q_rm
open Go.Proofs
set_option maxHeartbeats 4000000
set_option maxRecDepth 100000
def qJc (r : Bool) : V := vb r
def qI9 (r : Bool) : List (Nat × (Nat × O)) := []
def qAf (x13 : Bool) : St :=
 ⟨[(4, vb x13)], []⟩
theorem qG4 (a1 : List Slice) (a2 : Box) (r : Bool) (hm : DH a1 a2 = some r) : CtX Tryz.prog globs 77 0 0 [.one (tl qI default a1), .agg (zG a2)] [] (qJc r) (qI9 r) := by
 unfold DH at hm
 refine q_E Tryz.f77 36 fun E => ?_
 refine q_sq ?_
 refine q_vn [] 0 ⟨[(0, vc (tl qI default a1)), (3, vp 0 0)], [(0, bx 67 (zG a2))]⟩ ?_
 refine q_jn (ι := Bool) (fun p => qAf p) (fun p => QY p = some r) ?_ ?_
 ·rintro x13 hm
  show H _ (qAf x13) _ _
  obtain rfl := Option.some.inj hm
  refine q_rt ?_
  exact q_rm
 ·obtain ⟨v3, h4, hm⟩ := qD hm
  rcases Bool.eq_false_or_eq_true v3 with b5 | b5
  ·replace hm := qC b5 hm
   obtain ⟨v6, h7, hm⟩ := qD hm
   rcases Bool.eq_false_or_eq_true v6 with b8 | b8
   ·replace hm := qC b8 hm
    rcases Bool.eq_false_or_eq_true (decide (a2.Z.A ≥ 0)) with b9 | b9
    ·replace hm := qC b9 hm
     rcases Bool.eq_false_or_eq_true (decide (a2.Z.A < a2.Z.B)) with b10 | b10
     ·replace hm := qC b10 hm
      obtain ⟨v11, h12, hm⟩ := qD hm
      refine q_dn [qc 2 [6] 1 (jK a2.X v3 h4), qf 3 b5, qk 6 [8, 10] 1 ⟨[(8, vb true), (10, va (e_Span a2.Y))], []⟩ (jK a2.Y v6 h7), qf 8 b8, qf 14 b9, qf 23 b10, qk 28 [28, 32] 1 ⟨[(28, vb true), (32, vc (tl qI default a1))], []⟩ (qB6 a1 v11 h12)] [0, 1, 3, 7, 15, 31, 63, 127, 255, 511, 1023, 2047, 4095, 8191, 16383, 32767, 65535, 131071, 32767, 294911, 819199, 2097151, 4194303, 8388607, 16777215, 33554431, 67108863, 16777215, 150994943, 536870911, 1073741823, 2147483647] 1 ⟨[(4, vb (decide (a2.Z.B ≤ v11)))], []⟩ ?_
      exact q_J (decide (a2.Z.B ≤ v11)) hm
     ·replace hm := qB b10 hm
      refine q_dn [qc 2 [6] 1 (jK a2.X v3 h4), qf 3 b5, qk 6 [8, 10] 1 ⟨[(8, vb true), (10, va (e_Span a2.Y))], []⟩ (jK a2.Y v6 h7), qf 8 b8, qf 14 b9, qf 23 b10] [0, 1, 3, 7, 15, 31, 63, 127, 255, 511, 1023, 2047, 4095, 8191, 16383, 32767, 65535, 131071, 32767, 294911, 819199, 2097151, 4194303, 8388607, 16777215, 33554431, 67108863, 16777215, 150994943, 536870911, 1073741823, 2147483647] 1 ⟨[(4, vb false)], []⟩ ?_
      exact q_J (false) hm
    ·replace hm := qB b9 hm
     refine q_dn [qc 2 [6] 1 (jK a2.X v3 h4), qf 3 b5, qk 6 [8, 10] 1 ⟨[(8, vb true), (10, va (e_Span a2.Y))], []⟩ (jK a2.Y v6 h7), qf 8 b8, qf 14 b9] [0, 1, 3, 7, 15, 31, 63, 127, 255, 511, 1023, 2047, 4095, 8191, 16383, 32767, 65535, 131071, 32767, 294911, 819199, 2097151, 4194303, 8388607, 16777215, 33554431, 67108863, 16777215, 150994943, 536870911, 1073741823, 2147483647] 1 ⟨[(4, vb false)], []⟩ ?_
     exact q_J (false) hm
   ·replace hm := qB b8 hm
    refine q_dn [qc 2 [6] 1 (jK a2.X v3 h4), qf 3 b5, qk 6 [8, 10] 1 ⟨[(8, vb true), (10, va (e_Span a2.Y))], []⟩ (jK a2.Y v6 h7), qf 8 b8] [0, 1, 3, 7, 15, 31, 63, 127, 255, 511, 1023, 2047, 4095, 8191, 16383, 32767, 65535, 131071, 32767, 294911, 819199, 2097151, 4194303, 8388607, 16777215, 33554431, 67108863, 16777215, 150994943, 536870911, 1073741823, 2147483647] 1 ⟨[(4, vb false)], []⟩ ?_
    exact q_J (false) hm
  ·replace hm := qB b5 hm
   refine q_dn [qc 2 [6] 1 (jK a2.X v3 h4), qf 3 b5] [0, 1, 3, 7, 15, 31, 63, 127, 255, 511, 1023, 2047, 4095, 8191, 16383, 32767, 65535, 131071, 32767, 294911, 819199, 2097151, 4194303, 8388607, 16777215, 33554431, 67108863, 16777215, 150994943, 536870911, 1073741823, 2147483647] 1 ⟨[(4, vb false)], []⟩ ?_
   exact q_J (false) hm
def qKM (r : Bool) : V := vb r
def qK7 (r : Bool) : List (Nat × (Nat × O)) := []
def qAS (x5 : Bool) : St :=
 ⟨[(2, vb x5)], []⟩
theorem AK (a1 : Product) (r : Bool) (hm : IE a1 = some r) : CtX Tryz.prog globs 114 0 0 [.agg (qA a1)] [] (qKM r) (qK7 r) := by
 unfold IE at hm
 refine q_E Tryz.f114 21 fun E => ?_
 refine q_sq ?_
 refine q_vn [] 0 ⟨[(1, vp 0 0)], [(0, bx 62 (qA a1))]⟩ ?_
 refine q_jn (ι := Bool) (fun p => qAS p) (fun p => YE p = some r) ?_ ?_
 ·rintro x5 hm
  show H _ (qAS x5) _ _
  obtain rfl := Option.some.inj hm
  refine q_rt ?_
  exact q_rm
 ·rcases Bool.eq_false_or_eq_true (decide (a1.Thick ≥ 1)) with b2 | b2
  ·replace hm := qC b2 hm
   rcases Bool.eq_false_or_eq_true (decide (a1.Thick ≤ 600)) with b3 | b3
   ·replace hm := qC b3 hm
    rcases Bool.eq_false_or_eq_true (decide (a1.Width ≥ 1)) with b4 | b4
    ·replace hm := qC b4 hm
     refine q_vn [qf 3 b2, qf 8 b3, qf 13 b4] 1 ⟨[(2, vb (decide (a1.Width ≤ 600)))], []⟩ ?_
     exact q_J (decide (a1.Width ≤ 600)) hm
    ·replace hm := qB b4 hm
     refine q_vn [qf 3 b2, qf 8 b3, qf 13 b4] 1 ⟨[(2, vb false)], []⟩ ?_
     exact q_J (false) hm
   ·replace hm := qB b3 hm
    refine q_vn [qf 3 b2, qf 8 b3] 1 ⟨[(2, vb false)], []⟩ ?_
    exact q_J (false) hm
  ·replace hm := qB b2 hm
   refine q_vn [qf 3 b2] 1 ⟨[(2, vb false)], []⟩ ?_
   exact q_J (false) hm
set_option maxRecDepth 100000
def qLa (r : Int × Int) : V := .tup [.one (ci r.1), .one (ci r.2)]
def qKI (r : Int × Int) : List (Nat × (Nat × O)) := []
def qBd (a1 : Product) (x6 : Bool) : St :=
 ⟨[(1, vp 0 0), (16, vb x6)], [(0, bx 62 (qA a1))]⟩
theorem NA (a1 : Product) (r : Int × Int) (hm : JT a1 = some r) : CtX Tryz.prog globs 73 0 0 [.agg (qA a1)] [] (qLa r) (qKI r) := by
 unfold JT at hm
 refine q_E Tryz.f73 33 fun E => ?_
 refine q_sq ?_
 refine q_vn [] 0 ⟨[(1, vp 0 0)], [(0, bx 62 (qA a1))]⟩ ?_
 refine q_sq ?_
 refine q_jn (ι := Bool) (fun p => qBd a1 p) (fun p => PU a1 p = some r) ?_ ?_
 ·rintro x6 hm
  show H _ (qBd a1 x6) _ _
  refine q_cn x6 (fun b7 => ?_) (fun b7 => ?_)
  ·replace hm := qC b7 hm
   refine q_sq ?_
   refine q_vn [] 1 ⟨[(2, vi 0), (3, vi 0)], []⟩ ?_
   obtain rfl := Option.some.inj hm
   refine q_rt ?_
   exact q_rm
  ·replace hm := qB b7 hm
   refine q_sk ?_
   refine q_sq ?_
   refine q_dn [qd 7 (Dir.none) (show (1000 : Int) ≠ 0 by decide), qd 15 (Dir.none) (show (1000 : Int) ≠ 0 by decide)] [0, 1, 0, 4, 12, 31, 63, 127, 0, 256, 0, 1024, 3072, 7936, 16128, 32512, 255, 131071] 1 ⟨[(2, vi (w64 (Int.tdiv (w64 ((w64 (a1.Thick * (w64 (1000 + a1.Allow)))) + 999)) 1000))), (3, vi (w64 (Int.tdiv (w64 ((w64 (a1.Width * (w64 (1000 + a1.Allow)))) + 999)) 1000)))], []⟩ ?_
   obtain rfl := Option.some.inj hm
   refine q_rt ?_
   exact q_rm
 ·obtain ⟨v2, h3, hm⟩ := qD hm
  rcases Bool.eq_false_or_eq_true (!v2) with b4 | b4
  ·replace hm := qC b4 hm
   refine q_vu [qc 1 [4] 1 (AK a1 v2 h3), qf 3 b4] 1 [] [(16, vb true)] [] [] ?_
   exact q_J (true) hm
  ·replace hm := qB b4 hm
   rcases Bool.eq_false_or_eq_true (decide (a1.Allow < 0)) with b5 | b5
   ·replace hm := qC b5 hm
    refine q_vu [qc 1 [4] 1 (AK a1 v2 h3), qf 3 b4, qf 8 b5] 1 [] [(16, vb true)] [] [] ?_
    exact q_J (true) hm
   ·replace hm := qB b5 hm
    refine q_vu [qc 1 [4] 1 (AK a1 v2 h3), qf 3 b4, qf 8 b5] 1 [] [(16, vb (decide (a1.Allow > 200)))] [] [] ?_
    exact q_J (decide (a1.Allow > 200)) hm
open Go.Proofs
set_option maxHeartbeats 4000000
set_option maxRecDepth 100000
def CA (r : Int × Bool) : V := .tup [.one (ci r.1), .one (cb r.2)]
def CC (r : Int × Bool) : List (Nat × (Nat × O)) := []
def MT (a1 : Product) (a2 : Int) (x3 : Int) : St :=
 ⟨[(1, vi a2), (2, vp 0 0), (6, vi x3)], [(0, bx 62 (qA a1))]⟩
def qAV : St :=
 ⟨[], []⟩
theorem qF2 (E : Env 0) (a1 : Product) (a2 : Int) : ∀ (n : Nat) (x3 : Int) (res : (Int × Bool) ⊕ Unit), ZV a1 a2 n x3 = some res → HL (kx E 31 0) (nd Tryz.f78 52) (wI 0 (fun o => qAV) (fun v st => RetQ Tryz.prog Tryz.f78 (CA v) (CC v) .ret st) res) n (MT a1 a2 x3) := by
 intro n
 induction n with
 | zero =>
  intro x3 res hm
  cases hm
 | succ n ih =>
  intro x3 res hm
  refine qR ?_
  refine q_sq ?_
  refine q_sq ?_
  refine q_vu [] 1 [] [(11, vb (decide (x3 < ((a1.Lengths.length : Nat) : Int))))] [] [] ?_
  refine q_cn (decide (x3 < ((a1.Lengths.length : Nat) : Int))) (fun b4 => ?_) (fun b4 => ?_)
  ·replace hm := qC b4 hm
   refine q_sk ?_
   refine q_sq ?_
   refine q_bk 1 ?_
   refine q_sq ?_
   obtain ⟨g5, hm⟩ := qL hm
   refine q_vu [qd 3 (Dir.none) (inb_of g5)] 1 [11] [(20, vb ((a1.Lengths.getD x3.toNat default) == a2))] [] [] ?_
   refine q_cn ((a1.Lengths.getD x3.toNat default) == a2) (fun b6 => ?_) (fun b6 => ?_)
   ·replace hm := qC b6 hm
    refine q_sq ?_
    refine q_sq ?_
    refine q_vu [] 1 [1, 20] [(25, vb (decide (x3 ≥ ((a1.Prices.length : Nat) : Int))))] [] [] ?_
    refine q_cn (decide (x3 ≥ ((a1.Prices.length : Nat) : Int))) (fun b7 => ?_) (fun b7 => ?_)
    ·replace hm := qC b7 hm
     refine q_sq ?_
     refine q_vn [] 1 ⟨[(4, vi 0), (5, vb false)], []⟩ ?_
     obtain rfl := Option.some.inj hm
     refine q_rt ?_
     refine qY (0, false) ?_
     exact q_rm
    ·replace hm := qB b7 hm
     refine q_sk ?_
     refine q_sq ?_
     obtain ⟨g8, hm⟩ := qL hm
     refine q_vn [qd 3 (Dir.none) (inb_of g8)] 1 ⟨[(4, vi (a1.Prices.getD x3.toNat default)), (5, vb true)], []⟩ ?_
     obtain rfl := Option.some.inj hm
     refine q_rt ?_
     refine qY ((a1.Prices.getD x3.toNat default), true) ?_
     exact q_rm
   ·replace hm := qB b6 hm
    refine q_sk ?_
    refine q_vu [] 1 [6, 20] [(6, vi (w64 (x3 + 1)))] [] [] ?_
    exact q_hl (MT a1 a2 (w64 (x3 + 1))) (ih (w64 (x3 + 1)) _ hm)
  ·replace hm := qB b4 hm
   refine q_ex 0 ?_
   obtain rfl := Option.some.inj hm
   exact wJ () (by kernel_rfl) (by kernel_rfl)
theorem qDp (a1 : Product) (a2 : Int) (r : Int × Bool) (hm : UY a1 a2 = some r) : CtX Tryz.prog globs 78 0 0 [.agg (qA a1), .one (ci a2)] [] (CA r) (CC r) := by
 unfold UY at hm
 refine q_E Tryz.f78 31 fun E => ?_
 refine q_sq ?_
 refine q_vn [] 0 ⟨[(1, vi a2), (2, vp 0 0)], [(0, bx 62 (qA a1))]⟩ ?_
 refine q_sq ?_
 refine q_sq ?_
 refine q_vu [] 1 [] [(6, vi 0)] [] [] ?_
 obtain ⟨u11, h10, hm⟩ := qD hm
 refine zM (nd Tryz.f78 52) 0 (by kernel_rfl) FUEL (fun o => qAV) (fun v st => RetQ Tryz.prog Tryz.f78 (CA v) (CC v) .ret st) u11 (q_hl (MT a1 a2 0) (qF2 E a1 a2 FUEL 0 u11 h10)) ?_ ?_
 ·rintro v12 rfl st hr
  obtain rfl := Option.some.inj hm
  exact hr
 ·rintro o9 rfl
  replace hm : _ = some r := hm
  refine q_sq ?_
  refine q_vn [] 1 ⟨[(4, vi 0), (5, vb false)], []⟩ ?_
  obtain rfl := Option.some.inj hm
  refine q_rt ?_
  exact q_rm
def qIO (r : Int) : V := vi r
def qJm (r : Int) : List (Nat × (Nat × O)) := []
def qAg (a1 : Span) (a2 : Span) (x6 : Bool) : St :=
 ⟨[(5, vi (imax a1.A a2.A)), (6, vi (imin a1.B a2.B)), (23, vb x6)], []⟩
theorem qCk (a1 : Span) (a2 : Span) (r : Int) (hm : PV a1 a2 = some r) : CtX Tryz.prog globs 90 0 0 [.agg (e_Span a1), .agg (e_Span a2)] [] (qIO r) (qJm r) := by
 unfold PV at hm
 refine q_E Tryz.f90 27 fun E => ?_
 refine q_sq ?_
 refine q_vn [] 0 ⟨[(2, vp 0 0), (3, vp 1 0)], [(0, bx 26 (e_Span a1)), (1, bx 26 (e_Span a2))]⟩ ?_
 refine q_sq ?_
 refine q_du [] [0, 1, 0, 4, 15, 0, 32, 0, 128, 480, 31, 2047] 2 [2] [(5, vi (imax a1.A a2.A)), (6, vi (imin a1.B a2.B))] [0] [] ?_
 refine q_sq ?_
 refine q_jn (ι := Bool) (fun p => qAg a1 a2 p) (fun p => GJ a1 a2 p = some r) ?_ ?_
 ·rintro x6 hm
  show H _ (qAg a1 a2 x6) _ _
  refine q_cn x6 (fun b7 => ?_) (fun b7 => ?_)
  ·replace hm := qC b7 hm
   refine q_sq ?_
   refine q_vn [] 2 ⟨[(4, vi 0)], []⟩ ?_
   obtain rfl := Option.some.inj hm
   refine q_rt ?_
   exact q_rm
  ·replace hm := qB b7 hm
   refine q_sk ?_
   refine q_sq ?_
   refine q_vn [] 2 ⟨[(4, vi (w64 ((imin a1.B a2.B) - (imax a1.A a2.A))))], []⟩ ?_
   obtain rfl := Option.some.inj hm
   refine q_rt ?_
   exact q_rm
 ·obtain ⟨v3, h4, hm⟩ := qD hm
  rcases Bool.eq_false_or_eq_true v3 with b5 | b5
  ·replace hm := qC b5 hm
   refine q_vu [qc 1 [17] 2 (ZR a2 v3 h4), qf 2 b5] 2 [3] [(23, vb true)] [1] [] ?_
   exact q_J (true) hm
  ·replace hm := qB b5 hm
   refine q_vu [qc 1 [17] 2 (ZR a2 v3 h4), qf 2 b5] 2 [3] [(23, vb (decide ((imax a1.A a2.A) ≥ (imin a1.B a2.B))))] [1] [] ?_
   exact q_J (decide ((imax a1.A a2.A) ≥ (imin a1.B a2.B))) hm
set_option maxRecDepth 100000
def qHa (r : Span) : V := va (e_Span r)
def qIh (r : Span) : List (Nat × (Nat × O)) := []
theorem qGC (a1 : Int) (r : Span) (hm : UE a1 = some r) : CtX Tryz.prog globs 91 0 0 [.one (ci a1)] [] (qHa r) (qIh r) := by
 unfold UE at hm
 refine q_E Tryz.f91 9 fun E => ?_
 refine q_sq ?_
 refine q_vn [] 0 ⟨[(0, vi a1), (2, vp 0 0)], [(0, bx 26 [ci 0, ci 0])]⟩ ?_
 refine q_sq ?_
 refine q_vu [] 1 [0] [] [0] [(0, bx 26 [ci (w64 (10 * a1)), ci (w64 (10 * (w64 (a1 + 1))))])] ?_
 obtain rfl := Option.some.inj hm
 refine q_rt ?_
 exact q_rm
open Go.Proofs
set_option maxHeartbeats 4000000
set_option maxRecDepth 100000
def qKK (r : qK) : V := va (qZ r)
def qK3 (r : qK) : List (Nat × (Nat × O)) := []
theorem qI3 (a1 : qK) (r : qK) (hm : FP a1 = some r) : CtX Tryz.prog globs 89 0 0 [.agg (qZ a1)] [] (qKK r) (qK3 r) := by
 unfold FP at hm
 refine q_E Tryz.f89 8 fun E => ?_
 refine q_sq ?_
 refine q_vn [] 0 ⟨[(1, vp 0 0), (2, vp 1 0)], [(0, bx 57 (qZ a1)), (1, bx 57 [ci 0, .emp])]⟩ ?_
 refine q_sq ?_
 refine q_sq ?_
 obtain ⟨v2, h3, hm⟩ := qD hm
 refine q_vu [qc 1 [3] 2 (qC2 a1 v2 h3)] 2 [] [(5, vb (v2 != 0))] [] [] ?_
 refine q_cn (v2 != 0) (fun b4 => ?_) (fun b4 => ?_)
 ·replace hm := qC b4 hm
  refine q_sq ?_
  refine q_vu [] 2 [1, 5] [] [0] [] ?_
  refine q_fn [.ownB 1 1 2 26 2 (rf e_Span ([] : List Span))] ⟨[(2, vp 1 0)], [(1, bx 57 [ci 0, .own 2 0 2 0]), (2, ro 0 26 2 0 (rf e_Span ([] : List Span)))]⟩ o0 ?_
  refine q_fn [.len 2 (([] : List Span).length), .frz 2] ⟨[(2, vp 1 0)], [(1, bx 57 [ci 0, tl e_Span default ([] : List Span)])]⟩ (o1 (And.intro (And.intro (show 0 = ([] : List Span).length from rfl) (show 0 = ([] : List Span).length from rfl)) (Nat.le_refl (([] : List Span).length)))) ?_
  obtain rfl := Option.some.inj hm
  refine q_rt ?_
  exact q_rm
 ·replace hm := qB b4 hm
  refine q_sk ?_
  refine q_sq ?_
  refine q_vn [] 2 ⟨[(2, vp 1 0)], [(1, bx 57 (qZ a1))]⟩ ?_
  obtain rfl := Option.some.inj hm
  refine q_rt ?_
  exact q_rm
def qIs (r : Int) : V := vi r
def qID (r : Int) : List (Nat × (Nat × O)) := []
def FD (a2 : Rect) (v3 : qK) (x5 : Int) (x6 : Int) : St :=
 ⟨[(2, vp 0 0), (3, vp 1 0), (5, vi x5), (6, vi x6)], [(0, bx 57 (qZ v3)), (1, bx 28 (qE a2))]⟩
def CG (x15 : Int) : St :=
 ⟨[(5, vi x15)], []⟩
theorem qEr (E : Env 0) (a2 : Rect) (v3 : qK) : ∀ (n : Nat) (x5 : Int) (x6 : Int) (res : Int), WW a2 v3 n x5 x6 = some res → HL (kx E 36 0) (nd Tryz.f52 244) (wE 0 (fun o => CG o) res) n (FD a2 v3 x5 x6) := by
 intro n
 induction n with
 | zero =>
  intro x5 x6 res hm
  cases hm
 | succ n ih =>
  intro x5 x6 res hm
  refine qR ?_
  refine q_sq ?_
  refine q_sq ?_
  refine q_vu [] 2 [] [(13, vb (decide (x6 < ((v3.Rows.length : Nat) : Int))))] [] [] ?_
  refine q_cn (decide (x6 < ((v3.Rows.length : Nat) : Int))) (fun b7 => ?_) (fun b7 => ?_)
  ·replace hm := qC b7 hm
   refine q_sk ?_
   refine q_sq ?_
   refine q_bk 1 ?_
   obtain ⟨g8, hm⟩ := qL hm
   obtain ⟨v9, h10, hm⟩ := qD hm
   obtain ⟨v11, h12, hm⟩ := qD hm
   obtain ⟨v13, h14, hm⟩ := qD hm
   refine q_du [qd 4 (Dir.none) (inb_of g8), qc 8 [21, 23] 2 (qCk (v3.Rows.getD x6.toNat default) a2.X v9 h10), qc 13 [28] 2 (qGC (w64 (v3.Low + x6)) v11 h12), qc 16 [29, 31] 2 (qCk v11 a2.Y v13 h14)] [0, 0, 2, 0, 14, 30, 0, 64, 254, 0, 512, 0, 3584, 8190, 0, 16384, 65534, 131070, 262143, 524287] 2 [5, 13] [(5, vi (w64 (x5 + (w64 (v9 * v13)))))] [] [] ?_
   refine q_vu [] 2 [6] [(6, vi (w64 (x6 + 1)))] [] [] ?_
   exact q_hl (FD a2 v3 (w64 (x5 + (w64 (v9 * v13)))) (w64 (x6 + 1))) (ih (w64 (x5 + (w64 (v9 * v13)))) (w64 (x6 + 1)) _ hm)
  ·replace hm := qB b7 hm
   refine q_ex 0 ?_
   obtain rfl := Option.some.inj hm
   exact jL (by kernel_rfl) (by kernel_rfl)
theorem qHE (a1 : qK) (a2 : Rect) (r : Int) (hm : DB a1 a2 = some r) : CtX Tryz.prog globs 52 0 0 [.agg (qZ a1), .agg (qE a2)] [] (qIs r) (qID r) := by
 unfold DB at hm
 refine q_E Tryz.f52 36 fun E => ?_
 refine q_sq ?_
 refine q_vn [] 0 ⟨[(2, vp 0 0), (3, vp 1 0)], [(0, bx 57 (qZ a1)), (1, bx 28 (qE a2))]⟩ ?_
 refine q_sq ?_
 refine q_vu [] 2 [] [(5, vi 0)] [] [] ?_
 refine q_sq ?_
 obtain ⟨v3, h4, hm⟩ := qD hm
 refine q_vu [qc 1 [7] 2 (qI3 a1 v3 h4)] 2 [] [] [0] [(0, bx 57 (qZ v3))] ?_
 refine q_sq ?_
 refine q_sq ?_
 refine q_vu [] 2 [] [(6, vi 0)] [] [] ?_
 obtain ⟨o16, h17, hm⟩ := qD hm
 refine zX (nd Tryz.f52 244) 0 (by kernel_rfl) FUEL (fun o => CG o) o16 (q_hl (FD a2 v3 0 0) (qEr E a2 v3 FUEL 0 0 o16 h17)) ?_
 refine q_sq ?_
 refine q_vn [] 2 ⟨[(4, vi o16)], []⟩ ?_
 obtain rfl := Option.some.inj hm
 refine q_rt ?_
 exact q_rm
set_option maxRecDepth 100000
def qLR (r : Int) : V := vi r
def qMr (r : Int) : List (Nat × (Nat × O)) := []
theorem qKu (a1 : Span) (a2 : Int) (a3 : Int) (r : Int) (hm : HY a1 a2 a3 = some r) : CtX Tryz.prog globs 51 0 0 [.agg (e_Span a1), .one (ci a2), .one (ci a3)] [] (qLR r) (qMr r) := by
 unfold HY at hm
 refine q_E Tryz.f51 25 fun E => ?_
 refine q_sq ?_
 refine q_vn [] 0 ⟨[(1, vi a2), (2, vi a3), (3, vp 0 0)], [(0, bx 26 (e_Span a1))]⟩ ?_
 refine q_sq ?_
 refine q_dn [] [0, 1, 0, 7, 0, 16, 0, 0, 192, 496, 15, 2047] 1 ⟨[(7, vi (imax a1.A a2)), (8, vi (imin a1.B (w64 (a2 + a3))))], []⟩ ?_
 refine q_sq ?_
 refine q_sq ?_
 refine q_vu [] 1 [] [(21, vb (decide ((imax a1.A a2) ≥ (imin a1.B (w64 (a2 + a3))))))] [] [] ?_
 refine q_cn (decide ((imax a1.A a2) ≥ (imin a1.B (w64 (a2 + a3))))) (fun b4 => ?_) (fun b4 => ?_)
 ·replace hm := qC b4 hm
  refine q_sq ?_
  refine q_vn [] 1 ⟨[(6, vi 0)], []⟩ ?_
  obtain rfl := Option.some.inj hm
  refine q_rt ?_
  exact q_rm
 ·replace hm := qB b4 hm
  refine q_sk ?_
  refine q_sq ?_
  refine q_vn [] 1 ⟨[(6, vi (w64 ((imin a1.B (w64 (a2 + a3))) - (imax a1.A a2))))], []⟩ ?_
  obtain rfl := Option.some.inj hm
  refine q_rt ?_
  exact q_rm
open Go.Proofs
set_option maxHeartbeats 4000000
set_option maxRecDepth 100000
def qMU (r : (List Slice)) : V := vo 0 0 3 r.length
def qMS (r : (List Slice)) : List (Nat × (Nat × O)) := [(0, ro 0 59 3 r.length (rf qI r))]
def qC7 (a1 : List Slice) (a2 : Span) (x7 : Int) (x8 : Int) (l15 : List Slice) (l15n : Nat) : St :=
 ⟨[(0, vc (tl qI default a1)), (3, vp 0 0), (5, vo 1 0 3 l15n), (6, vi x7), (7, vi x8)], [(0, bx 26 [ci (imax a2.A 0), ci (imin a2.B 20000)]), (1, ro 0 59 3 l15n (rf qI l15))]⟩
def AN (a1 : List Slice) (a2 : Span) (l6 : List Slice) (l6n : Nat) (x7 : Int) (x8 : Int) : St :=
 ⟨[(0, vc (tl qI default a1)), (3, vp 0 0), (5, vo 1 0 3 l6n), (6, vi x7), (7, vi x8)], [(0, bx 26 [ci (imax a2.A 0), ci (imin a2.B 20000)]), (1, ro 0 59 3 l6n (rf qI l6))]⟩
def qC4 (l16 : List Slice) : St :=
 ⟨[(5, vo 1 0 3 l16.length)], [(1, ro 0 59 3 l16.length (rf qI l16))]⟩
theorem qHM (E : Env 0) (a1 : List Slice) (a2 : Span) : ∀ (n : Nat) (l6 : List Slice) (l6n : Nat) (x7 : Int) (x8 : Int) (res : (List Slice)), l6.length = l6n → WK a1 a2 n l6 x7 x8 = some res → HL (kx E 53 0) (nd Tryz.f119 1012) (wE 0 (fun o => qC4 o) res) n (AN a1 a2 l6 l6n x7 x8) := by
 intro n
 induction n with
 | zero =>
  intro l6 l6n x7 x8 res hl0 hm
  cases hm
 | succ n ih =>
  intro l6 l6n x7 x8 res hl0 hm
  subst hl0
  refine qR ?_
  refine q_sq ?_
  refine q_sq ?_
  refine q_vu [] 2 [] [(22, vb (decide (x8 < ((a1.length : Nat) : Int))))] [] [] ?_
  refine q_cn (decide (x8 < ((a1.length : Nat) : Int))) (fun b9 => ?_) (fun b9 => ?_)
  ·replace hm := qC b9 hm
   refine q_sk ?_
   refine q_sq ?_
   refine q_bk 1 ?_
   refine q_sq ?_
   obtain ⟨g10, hm⟩ := qL hm
   obtain ⟨v11, h12, hm⟩ := qD hm
   refine q_du [qd 4 (Dir.none) (inb_of g10), qc 7 [25, 26, 31] 2 (qKu (Span.mk (imax a2.A 0) (imin a2.B 20000)) x7 ((a1.getD x8.toNat default).Len) v11 h12)] [0, 0, 0, 0, 12, 28, 60, 127, 255] 2 [22] [(8, vi v11)] [] [] ?_
   refine q_jn (ι := (List Slice) × Nat) (fun p => qC7 a1 a2 x7 x8 p.1 p.2) (fun p => p.1.length = p.2 ∧ HS a1 x7 x8 (WK a1 a2 n) p.1 = some res) ?_ ?_
   ·rintro ⟨l15, l15n⟩ ⟨el15, hm⟩
    replace el15 : l15.length = l15n := el15
    subst el15
    show H _ (qC7 a1 a2 x7 x8 l15 l15.length) _ _
    refine q_vu [qd 3 (Dir.none) (inb_of g10)] 3 [6] [(6, vi (w64 (x7 + ((a1.getD x8.toNat default).Len))))] [] [] ?_
    refine q_vu [] 3 [7] [(7, vi (w64 (x8 + 1)))] [] [] ?_
    exact q_hl (AN a1 a2 l15 l15.length (w64 (x7 + ((a1.getD x8.toNat default).Len))) (w64 (x8 + 1))) (ih l15 l15.length (w64 (x7 + ((a1.getD x8.toNat default).Len))) (w64 (x8 + 1)) _ rfl hm)
   ·refine q_sq ?_
    refine q_vu [] 2 [] [(34, vb (decide (v11 > 0)))] [] [] ?_
    refine q_cn (decide (v11 > 0)) (fun b13 => ?_) (fun b13 => ?_)
    ·replace hm := qC b13 hm
     obtain ⟨g14, hm⟩ := qL hm
     refine q_vu [qd 4 (Dir.none) (inb_of g10), qd 8 (drw 2 0 (rf qI ([(Slice.mk v11 ((a1.getD x8.toNat default).Sec))] : List Slice))) (litP qI default 3 (fun _ => rfl) ([(Slice.mk v11 ((a1.getD x8.toNat default).Sec))] : List Slice) 1 rfl), qd 9 (drw 1 1 (rf qI (l6 ++ ([(Slice.mk v11 ((a1.getD x8.toNat default).Sec))] : List Slice)))) (apP qI default l6 ([(Slice.mk v11 ((a1.getD x8.toNat default).Sec))] : List Slice) l6.length 1 3 40 (1 ≤ 1) (Nat.le_refl _) rfl rfl (fun _ => rfl) (wL g14))] 2 [5, 8, 34] [(5, vo 1 1 3 (l6.length + 1))] [1] [(1, ro 1 59 3 (l6.length + 1) (rf qI (l6 ++ ([(Slice.mk v11 ((a1.getD x8.toNat default).Sec))] : List Slice))))] ?_
     exact q_J ((l6 ++ ([(Slice.mk v11 ((a1.getD x8.toNat default).Sec))] : List Slice)), (l6.length + 1)) ⟨(len_app rfl rfl), hm⟩
    ·replace hm := qB b13 hm
     refine q_sk ?_
     exact q_J (l6, l6.length) ⟨rfl, hm⟩
  ·replace hm := qB b9 hm
   refine q_ex 0 ?_
   obtain rfl := Option.some.inj hm
   exact jL (by kernel_rfl) (by kernel_rfl)
theorem qLG (a1 : List Slice) (a2 : Span) (r : (List Slice)) (hm : IV a1 a2 = some r) : CtX Tryz.prog globs 119 0 0 [.one (tl qI default a1), .agg (e_Span a2)] [] (qMU r) (qMS r) := by
 unfold IV at hm
 refine q_E Tryz.f119 53 fun E => ?_
 refine q_sq ?_
 refine q_vn [] 0 ⟨[(0, vc (tl qI default a1)), (3, vp 0 0)], [(0, bx 26 (e_Span a2))]⟩ ?_
 refine q_sq ?_
 refine q_sq ?_
 obtain ⟨v3, h4, hm⟩ := qD hm
 refine q_vu [qc 1 [9] 1 (YD a1 v3 h4)] 1 [] [(11, vb (v3 != 0))] [] [] ?_
 refine q_cn (v3 != 0) (fun b5 => ?_) (fun b5 => ?_)
 ·replace hm := qC b5 hm
  refine q_sq ?_
  refine q_vn [] 1 ⟨[(4, vc (.emp))], []⟩ ?_
  refine q_fn [.own 4 1 59 3 (rf qI ([] : List Slice))] ⟨[(4, vo 1 0 3 0)], [(1, ro 0 59 3 0 (rf qI ([] : List Slice)))]⟩ o0 ?_
  refine q_fn [.len 1 (([] : List Slice).length)] ⟨[(4, vo 1 0 3 (([] : List Slice).length))], [(1, ro 0 59 3 (([] : List Slice).length) (rf qI ([] : List Slice)))]⟩ (o1 (And.intro (show 0 = ([] : List Slice).length from rfl) (show 0 = ([] : List Slice).length from rfl))) ?_
  obtain rfl := Option.some.inj hm
  refine qT 1 0 (by kernel_rfl) ?_
  refine q_rt ?_
  exact q_rm
 ·replace hm := qB b5 hm
  refine q_sk ?_
  refine q_sq ?_
  refine q_vu [] 1 [11] [(5, vc (.emp))] [] [] ?_
  refine q_sq ?_
  refine q_vu [] 1 [] [] [0] [(0, bx 26 [ci (imax a2.A 0), ci (imin a2.B 20000)])] ?_
  refine q_sq ?_
  refine q_vu [] 1 [] [(6, vi 0)] [] [] ?_
  refine q_sq ?_
  refine q_sq ?_
  refine q_vu [] 1 [] [(7, vi 0)] [] [] ?_
  refine q_fn [.own 5 1 59 3 (rf qI ([] : List Slice))] ⟨[(0, vc (tl qI default a1)), (3, vp 0 0), (5, vo 1 0 3 0), (6, vi 0), (7, vi 0)], [(0, bx 26 [ci (imax a2.A 0), ci (imin a2.B 20000)]), (1, ro 0 59 3 0 (rf qI ([] : List Slice)))]⟩ o0 ?_
  obtain ⟨o17, h18, hm⟩ := qD hm
  refine zX (nd Tryz.f119 1012) 0 (by kernel_rfl) FUEL (fun o => qC4 o) o17 (q_hl (AN a1 a2 ([] : List Slice) 0 0 0) (qHM E a1 a2 FUEL ([] : List Slice) 0 0 0 o17 rfl h18)) ?_
  refine q_sq ?_
  refine q_vu [] 2 [5] [(4, vo 1 0 3 o17.length)] [] [] ?_
  obtain rfl := Option.some.inj hm
  refine qT 1 0 (by kernel_rfl) ?_
  refine q_rt ?_
  exact q_rm
def qMm (r : Int) : V := vi r
def qMa (r : Int) : List (Nat × (Nat × O)) := []
def EJ (a2 : Box) (v3 : (List Slice)) (x5 : Int) (x6 : Int) : St :=
 ⟨[(3, vp 0 0), (5, vo 1 0 3 v3.length), (6, vi (w64 ((w64 (a2.X.B - a2.X.A)) * (w64 (a2.Y.B - a2.Y.A))))), (7, vi x5), (8, vi x6)], [(0, bx 67 (zG a2)), (1, ro 0 59 3 v3.length (rf qI v3))]⟩
def qCD (x12 : Int) : St :=
 ⟨[(7, vi x12)], []⟩
theorem qGm (E : Env 0) (a2 : Box) (v3 : (List Slice)) : ∀ (n : Nat) (x5 : Int) (x6 : Int) (res : Int), XM a2 v3 n x5 x6 = some res → HL (kx E 58 0) (nd Tryz.f80 500) (wE 0 (fun o => qCD o) res) n (EJ a2 v3 x5 x6) := by
 intro n
 induction n with
 | zero =>
  intro x5 x6 res hm
  cases hm
 | succ n ih =>
  intro x5 x6 res hm
  refine qR ?_
  refine q_sq ?_
  refine q_sq ?_
  refine q_vu [] 2 [] [(32, vb (decide (x6 < ((v3.length : Nat) : Int))))] [] [] ?_
  refine q_cn (decide (x6 < ((v3.length : Nat) : Int))) (fun b7 => ?_) (fun b7 => ?_)
  ·replace hm := qC b7 hm
   refine q_sk ?_
   refine q_sq ?_
   refine q_bk 1 ?_
   refine q_sq ?_
   obtain ⟨g8, hm⟩ := qL hm
   obtain ⟨v9, h10, hm⟩ := qD hm
   refine q_du [qd 2 (Dir.none) (inb_of g8), qd 4 (Dir.none) (toNat_lt (inb_of g8)), qc 10 [39, 44] 2 (qHE ((v3.getD x6.toNat default).Sec) (Rect.mk a2.X a2.Y) v9 h10)] [0, 0, 3, 7, 15, 0, 32, 0, 128, 480, 1023, 2047] 2 [32] [(9, vi v9)] [] [] ?_
   obtain ⟨g11, hm⟩ := qL hm
   refine q_vu [qd 9 (Dir.none) (qDF g11)] 2 [7, 9] [(7, vi (imax x5 (w64 (Int.tdiv (w64 ((w64 ((w64 (1000 * (w64 ((w64 ((w64 (a2.X.B - a2.X.A)) * (w64 (a2.Y.B - a2.Y.A)))) - v9)))) + (w64 ((w64 (a2.X.B - a2.X.A)) * (w64 (a2.Y.B - a2.Y.A)))))) - 1)) (w64 ((w64 (a2.X.B - a2.X.A)) * (w64 (a2.Y.B - a2.Y.A))))))))] [] [] ?_
   refine q_vu [] 2 [8] [(8, vi (w64 (x6 + 1)))] [] [] ?_
   exact q_hl (EJ a2 v3 (imax x5 (w64 (Int.tdiv (w64 ((w64 ((w64 (1000 * (w64 ((w64 ((w64 (a2.X.B - a2.X.A)) * (w64 (a2.Y.B - a2.Y.A)))) - v9)))) + (w64 ((w64 (a2.X.B - a2.X.A)) * (w64 (a2.Y.B - a2.Y.A)))))) - 1)) (w64 ((w64 (a2.X.B - a2.X.A)) * (w64 (a2.Y.B - a2.Y.A))))))) (w64 (x6 + 1))) (ih (imax x5 (w64 (Int.tdiv (w64 ((w64 ((w64 (1000 * (w64 ((w64 ((w64 (a2.X.B - a2.X.A)) * (w64 (a2.Y.B - a2.Y.A)))) - v9)))) + (w64 ((w64 (a2.X.B - a2.X.A)) * (w64 (a2.Y.B - a2.Y.A)))))) - 1)) (w64 ((w64 (a2.X.B - a2.X.A)) * (w64 (a2.Y.B - a2.Y.A))))))) (w64 (x6 + 1)) _ hm)
  ·replace hm := qB b7 hm
   refine q_ex 0 ?_
   obtain rfl := Option.some.inj hm
   exact jL (by kernel_rfl) (by kernel_rfl)
theorem qKp (a1 : List Slice) (a2 : Box) (r : Int) (hm : SS a1 a2 = some r) : CtX Tryz.prog globs 80 0 0 [.one (tl qI default a1), .agg (zG a2)] [] (qMm r) (qMa r) := by
 unfold SS at hm
 refine q_E Tryz.f80 58 fun E => ?_
 refine q_sq ?_
 refine q_vn [] 0 ⟨[(0, vc (tl qI default a1)), (3, vp 0 0)], [(0, bx 67 (zG a2))]⟩ ?_
 refine q_sq ?_
 obtain ⟨v3, h4, hm⟩ := qD hm
 refine q_vu [qc 3 [10, 12] 1 (qLG a1 a2.Z v3 h4)] 1 [0] [(5, vo 1 0 3 v3.length)] [] [(1, ro 0 59 3 v3.length (rf qI v3))] ?_
 refine q_sq ?_
 refine q_vu [] 2 [] [(6, vi (w64 ((w64 (a2.X.B - a2.X.A)) * (w64 (a2.Y.B - a2.Y.A)))))] [] [] ?_
 refine q_sq ?_
 refine q_vu [] 2 [] [(7, vi 0)] [] [] ?_
 refine q_sq ?_
 refine q_sq ?_
 refine q_vu [] 2 [] [(8, vi 0)] [] [] ?_
 obtain ⟨o13, h14, hm⟩ := qD hm
 refine zX (nd Tryz.f80 500) 0 (by kernel_rfl) FUEL (fun o => qCD o) o13 (q_hl (EJ a2 v3 0 0) (qGm E a2 v3 FUEL 0 0 o13 h14)) ?_
 refine q_sq ?_
 refine q_vn [] 2 ⟨[(4, vi o13)], []⟩ ?_
 obtain rfl := Option.some.inj hm
 refine q_rt ?_
 exact q_rm
end Saw
end Go.SL
