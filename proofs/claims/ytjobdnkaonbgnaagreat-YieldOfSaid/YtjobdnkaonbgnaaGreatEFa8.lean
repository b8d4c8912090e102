import Derived.Test.YtjobdnkaonbgnaaGreatEBase
import Derived.Test.YtjobdnkaonbgnaaGreatEFa7
set_option linter.unusedVariables false
set_option linter.unusedSimpArgs false
namespace Go.SL
namespace Saw
open Go.Proofs
set_option maxHeartbeats 4000000
set_option maxRecDepth 100000
def qIV (r : Bool) : V := vb r
def qIX (r : Bool) : List (Nat × (Nat × O)) := []
def CZ (x10 : Bool) : St :=
 ⟨[(2, vb x10)], []⟩
theorem qHX (a1 : Box) (r : Bool) (hm : NJ a1 = some r) : CtX Tryz.prog globs 71 0 0 [.agg (zC a1)] [] (qIV r) (qIX r) := by
 unfold NJ at hm
 refine q_E Tryz.f71 16 fun E => ?_
 refine s_vn [] 0 ⟨[(1, vp 0 0)], [(0, bx 67 (zC a1))]⟩ ?_
 refine q_jn (ι := Bool) (fun p => CZ p) (fun p => PB p = some r) ?_ ?_
 ·rintro x10 hm
  show H _ (CZ x10) _ _
  obtain rfl := oi hm
  refine q_rt ?_
  exact q_rm
 ·obtain ⟨v2, h3, hm⟩ := qD hm
  rcases Bool.eq_false_or_eq_true v2 with b4 | b4
  ·replace hm := qB b4 hm
   obtain ⟨v5, h6, hm⟩ := qD hm
   rcases Bool.eq_false_or_eq_true v5 with b7 | b7
   ·replace hm := qB b7 hm
    obtain ⟨v8, h9, hm⟩ := qD hm
    refine q_vn [qk 2 [4] 1 ⟨[(4, va (e_Span a1.X))], []⟩ (VL a1.X (-600) 600 v2 h3), qf 3 b4, qk 6 [6, 8] 1 ⟨[(6, vb true), (8, va (e_Span a1.Y))], []⟩ (VL a1.Y (-600) 600 v5 h6), qf 8 b7, qk 11 [11, 13] 1 ⟨[(11, vb true), (13, va (e_Span a1.Z))], []⟩ (VL a1.Z 0 20000 v8 h9)] 1 ⟨[(2, vb v8)], []⟩ ?_
    exact q_J (v8) hm
   ·replace hm := qC b7 hm
    refine q_vn [qk 2 [4] 1 ⟨[(4, va (e_Span a1.X))], []⟩ (VL a1.X (-600) 600 v2 h3), qf 3 b4, qk 6 [6, 8] 1 ⟨[(6, vb true), (8, va (e_Span a1.Y))], []⟩ (VL a1.Y (-600) 600 v5 h6), qf 8 b7] 1 ⟨[(2, vb false)], []⟩ ?_
    exact q_J (false) hm
  ·replace hm := qC b4 hm
   refine q_vn [qk 2 [4] 1 ⟨[(4, va (e_Span a1.X))], []⟩ (VL a1.X (-600) 600 v2 h3), qf 3 b4] 1 ⟨[(2, vb false)], []⟩ ?_
   exact q_J (false) hm
def CF (r : Int) : V := vi r
def CN (r : Int) : List (Nat × (Nat × O)) := []
def qBU (a1 : List Defect) (x3 : Int) (x7 : Bool) : St :=
 ⟨[(0, vc (tl qI default a1)), (3, vi x3), (13, vb x7)], []⟩
def HN (a1 : List Defect) (x3 : Int) : St :=
 ⟨[(0, vc (tl qI default a1)), (3, vi x3)], []⟩
def qBW : St :=
 ⟨[], []⟩
theorem qFP (E : Env 0) (a1 : List Defect) : ∀ (n : Nat) (x3 : Int) (res : Int ⊕ Unit), yH a1 n x3 = some res → HL (kx E 43 0) (nd Tryz.f36 116) (wN 0 (fun o => qBW) (fun v st => RetQ Tryz.prog Tryz.f36 (CF v) (CN v) .ret st) res) n (HN a1 x3) := by
 intro n
 induction n with
 | zero =>
  intro x3 res hm
  cases hm
 | succ n ih =>
  intro x3 res hm
  refine qQ ?_
  refine q_sq ?_
  refine s_vu [] 0 [] [(10, vb (decide (x3 < ((a1.length : Nat) : Int))))] [] [] ?_
  refine q_cn (decide (x3 < ((a1.length : Nat) : Int))) (fun b4 => ?_) (fun b4 => ?_)
  ·replace hm := qB b4 hm
   refine q_sk ?_
   refine q_sq ?_
   refine q_bk 1 ?_
   refine q_bk 2 ?_
   refine q_jn (ι := Bool) (fun p => qBU a1 x3 p) (fun p => NQ a1 x3 (yH a1 n) p = some res) ?_ ?_
   ·rintro x7 hm
    show H _ (qBU a1 x3 x7) _ _
    refine q_cn x7 (fun b8 => ?_) (fun b8 => ?_)
    ·replace hm := qB b8 hm
     refine s_vn [] 0 ⟨[(2, vi 10)], []⟩ ?_
     obtain rfl := oi hm
     refine q_rt ?_
     refine zB 10 ?_
     exact q_rm
    ·replace hm := qC b8 hm
     obtain ⟨g9, hm⟩ := qM hm
     obtain ⟨v10, h11, hm⟩ := qD hm
     refine s_vu [qd 2 (Dir.none) (inb_of g9), qc 5 [33] 0 (qDe ((a1.getD x3.toNat default).Box) v10 h11)] 0 [13] [(28, vb v10)] [] [] ?_
     refine q_cn v10 (fun b12 => ?_) (fun b12 => ?_)
     ·replace hm := qB b12 hm
      refine s_vn [] 0 ⟨[(2, vi 19)], []⟩ ?_
      obtain rfl := oi hm
      refine q_rt ?_
      refine zB 19 ?_
      exact q_rm
     ·replace hm := qC b12 hm
      obtain ⟨v13, h14, hm⟩ := qD hm
      refine s_vu [qd 2 (Dir.none) (inb_of g9), qc 5 [40] 0 (qHX ((a1.getD x3.toNat default).Box) v13 h14)] 0 [28] [(35, vb (!v13))] [] [] ?_
      refine q_cn (!v13) (fun b15 => ?_) (fun b15 => ?_)
      ·replace hm := qB b15 hm
       refine s_vn [] 0 ⟨[(2, vi 9)], []⟩ ?_
       obtain rfl := oi hm
       refine q_rt ?_
       refine zB 9 ?_
       exact q_rm
      ·replace hm := qC b15 hm
       refine q_sk ?_
       refine q_vu [] 0 [3, 35] [(3, vi (w64 (x3 + 1)))] [] [] ?_
       exact q_hl (HN a1 (w64 (x3 + 1))) (ih (w64 (x3 + 1)) _ hm)
   ·obtain ⟨g5, hm⟩ := qM hm
    rcases Bool.eq_false_or_eq_true (decide (((a1.getD x3.toNat default).Kind) < 1)) with b6 | b6
    ·replace hm := qB b6 hm
     refine q_vu [qd 2 (Dir.none) (inb_of g5), qf 6 b6] 0 [10] [(13, vb true)] [] [] ?_
     exact q_J (true) hm
    ·replace hm := qC b6 hm
     refine q_vu [qd 2 (Dir.none) (inb_of g5), qf 6 b6, qd 9 (Dir.none) (inb_of g5)] 0 [10] [(13, vb (decide (((a1.getD x3.toNat default).Kind) > 6)))] [] [] ?_
     exact q_J (decide (((a1.getD x3.toNat default).Kind) > 6)) hm
  ·replace hm := qC b4 hm
   refine q_ex 0 ?_
   obtain rfl := oi hm
   exact wR () (by kernel_rfl) (by kernel_rfl)
theorem IB (a1 : List Defect) (r : Int) (hm : GD a1 = some r) : CtX Tryz.prog globs 36 0 0 [.one (tl qI default a1)] [] (CF r) (CN r) := by
 unfold GD at hm
 refine q_E Tryz.f36 43 fun E => ?_
 refine s_vn [] 0 ⟨[(0, vc (tl qI default a1))], []⟩ ?_
 refine q_sq ?_
 refine s_vu [] 0 [] [(6, vb (decide (((a1.length : Nat) : Int) > 64)))] [] [] ?_
 refine q_cn (decide (((a1.length : Nat) : Int) > 64)) (fun b2 => ?_) (fun b2 => ?_)
 ·replace hm := qB b2 hm
  refine s_vn [] 0 ⟨[(2, vi 4)], []⟩ ?_
  obtain rfl := oi hm
  refine q_rt ?_
  exact q_rm
 ·replace hm := qC b2 hm
  refine q_sk ?_
  refine q_sq ?_
  refine s_vu [] 0 [6] [(3, vi 0)] [] [] ?_
  obtain ⟨u18, h17, hm⟩ := qD hm
  refine zP (nd Tryz.f36 116) 0 (by kernel_rfl) FUEL (fun o => qBW) (fun v st => RetQ Tryz.prog Tryz.f36 (CF v) (CN v) .ret st) u18 (q_hl (HN a1 0) (qFP E a1 FUEL 0 u18 h17)) ?_ ?_
  ·rintro v19 rfl st hr
   obtain rfl := oi hm
   exact hr
  ·rintro o16 rfl
   replace hm : _ = some r := hm
   refine s_vn [] 0 ⟨[(2, vi 0)], []⟩ ?_
   obtain rfl := oi hm
   refine q_rt ?_
   exact q_rm
def qK1 (r : Bool) : V := vb r
def qLQ (r : Bool) : List (Nat × (Nat × O)) := []
def qBH (x3 : Bool) : St :=
 ⟨[(2, vb x3)], []⟩
theorem qJz (a1 : Int) (r : Bool) (hm : LX a1 = some r) : CtX Tryz.prog globs 113 0 0 [.one (.val (.int .u8 a1))] [] (qK1 r) (qLQ r) := by
 unfold LX at hm
 refine q_E Tryz.f113 9 fun E => ?_
 refine s_vn [] 0 ⟨[(0, vc (.val (.int .u8 a1)))], []⟩ ?_
 refine q_jn (ι := Bool) (fun p => qBH p) (fun p => FE p = some r) ?_ ?_
 ·rintro x3 hm
  show H _ (qBH x3) _ _
  obtain rfl := oi hm
  refine q_rt ?_
  exact q_rm
 ·rcases Bool.eq_false_or_eq_true (decide (a1 ≥ 48)) with b2 | b2
  ·replace hm := qB b2 hm
   refine q_vn [qf 2 b2] 0 ⟨[(2, vb (decide (a1 ≤ 57)))], []⟩ ?_
   exact q_J (decide (a1 ≤ 57)) hm
  ·replace hm := qC b2 hm
   refine q_vn [qf 2 b2] 0 ⟨[(2, vb false)], []⟩ ?_
   exact q_J (false) hm
def IE (r : Bool) : V := vb r
def IC (r : Bool) : List (Nat × (Nat × O)) := []
def CX (a1 : ByteArray) (x5 : Int) (x16 : Bool) : St :=
 ⟨[(0, vc (cs a1)), (3, vi x5), (47, vb x16)], []⟩
def CV (a1 : ByteArray) (x5 : Int) (x9 : Bool) : St :=
 ⟨[(0, vc (cs a1)), (3, vi x5), (4, vb x9)], []⟩
def LC (a1 : ByteArray) (x5 : Int) : St :=
 ⟨[(0, vc (cs a1)), (3, vi x5)], []⟩
def qAj : St :=
 ⟨[], []⟩
def qAc (a1 : ByteArray) (x3 : Bool) : St :=
 ⟨[(0, vc (cs a1)), (12, vb x3)], []⟩
theorem qEV (E : Env 0) (a1 : ByteArray) : ∀ (n : Nat) (x5 : Int) (res : Bool ⊕ Unit), wS a1 n x5 = some res → HL (kx E 48 0) (nd Tryz.f72 116) (wN 0 (fun o => qAj) (fun v st => RetQ Tryz.prog Tryz.f72 (IE v) (IC v) .ret st) res) n (LC a1 x5) := by
 intro n
 induction n with
 | zero =>
  intro x5 res hm
  cases hm
 | succ n ih =>
  intro x5 res hm
  refine qQ ?_
  refine q_sq ?_
  refine s_vu [] 0 [] [(16, vb (decide (x5 < ((a1.size : Nat) : Int))))] [] [] ?_
  refine q_cn (decide (x5 < ((a1.size : Nat) : Int))) (fun b6 => ?_) (fun b6 => ?_)
  ·replace hm := qB b6 hm
   refine q_sk ?_
   refine q_sq ?_
   refine q_bk 1 ?_
   refine q_jn (ι := Bool) (fun p => CV a1 x5 p) (fun p => GR a1 x5 (wS a1 n) p = some res) ?_ ?_
   ·rintro x9 hm
    show H _ (CV a1 x5 x9) _ _
    refine q_jn (ι := Bool) (fun p => CX a1 x5 p) (fun p => JN x5 (wS a1 n) p = some res) ?_ ?_
    ·rintro x16 hm
     show H _ (CX a1 x5 x16) _ _
     refine q_cn x16 (fun b17 => ?_) (fun b17 => ?_)
     ·replace hm := qB b17 hm
      refine s_vn [] 0 ⟨[(2, vb false)], []⟩ ?_
      obtain rfl := oi hm
      refine q_rt ?_
      refine zB false ?_
      exact q_rm
     ·replace hm := qC b17 hm
      refine q_sk ?_
      refine q_vu [] 0 [3, 47] [(3, vi (w64 (x5 + 1)))] [] [] ?_
      exact q_hl (LC a1 (w64 (x5 + 1))) (ih (w64 (x5 + 1)) _ hm)
    ·rcases Bool.eq_false_or_eq_true (!x9) with b10 | b10
     ·replace hm := qB b10 hm
      rcases Bool.eq_false_or_eq_true (x5 == 0) with b11 | b11
      ·replace hm := qB b11 hm
       refine q_vu [qf 2 b10, qf 5 b11] 0 [4] [(47, vb true)] [] [] ?_
       exact q_J (true) hm
      ·replace hm := qC b11 hm
       obtain ⟨g12, hm⟩ := qM hm
       rcases Bool.eq_false_or_eq_true ((strAt a1 x5.toNat) != 95) with b13 | b13
       ·replace hm := qB b13 hm
        obtain ⟨v14, h15, hm⟩ := qD hm
        refine q_vu [qf 2 b10, qf 5 b11, qd 8 (Dir.none) (inb_of g12), qf 10 b13, qd 13 (Dir.none) (inb_of g12), qk 14 [39, 42] 0 ⟨[(39, vb true), (42, vc (.val (.int .u8 (strAt a1 x5.toNat))))], []⟩ (qJz (strAt a1 x5.toNat) v14 h15)] 0 [4] [(47, vb (!v14))] [] [] ?_
        exact q_J (!v14) hm
       ·replace hm := qC b13 hm
        refine q_vu [qf 2 b10, qf 5 b11, qd 8 (Dir.none) (inb_of g12), qf 10 b13] 0 [4] [(47, vb false)] [] [] ?_
        exact q_J (false) hm
     ·replace hm := qC b10 hm
      refine q_vu [qf 2 b10] 0 [4] [(47, vb false)] [] [] ?_
      exact q_J (false) hm
   ·obtain ⟨g7, hm⟩ := qM hm
    rcases Bool.eq_false_or_eq_true (decide ((strAt a1 x5.toNat) ≥ 97)) with b8 | b8
    ·replace hm := qB b8 hm
     refine q_vu [qd 2 (Dir.none) (inb_of g7), qf 4 b8, qd 7 (Dir.none) (inb_of g7)] 0 [16] [(4, vb (decide ((strAt a1 x5.toNat) ≤ 122)))] [] [] ?_
     exact q_J (decide ((strAt a1 x5.toNat) ≤ 122)) hm
    ·replace hm := qC b8 hm
     refine q_vu [qd 2 (Dir.none) (inb_of g7), qf 4 b8] 0 [16] [(4, vb false)] [] [] ?_
     exact q_J (false) hm
  ·replace hm := qC b6 hm
   refine q_ex 0 ?_
   obtain rfl := oi hm
   exact wR () (by kernel_rfl) (by kernel_rfl)
theorem qIh (a1 : ByteArray) (r : Bool) (hm : NH a1 = some r) : CtX Tryz.prog globs 72 0 0 [.one (cs a1)] [] (IE r) (IC r) := by
 unfold NH at hm
 refine q_E Tryz.f72 48 fun E => ?_
 refine s_vn [] 0 ⟨[(0, vc (cs a1))], []⟩ ?_
 refine q_sq ?_
 refine q_jn (ι := Bool) (fun p => qAc a1 p) (fun p => DC a1 p = some r) ?_ ?_
 ·rintro x3 hm
  show H _ (qAc a1 x3) _ _
  refine q_cn x3 (fun b4 => ?_) (fun b4 => ?_)
  ·replace hm := qB b4 hm
   refine s_vn [] 0 ⟨[(2, vb false)], []⟩ ?_
   obtain rfl := oi hm
   refine q_rt ?_
   exact q_rm
  ·replace hm := qC b4 hm
   refine q_sk ?_
   refine q_sq ?_
   refine s_vu [] 0 [12] [(3, vi 0)] [] [] ?_
   obtain ⟨u20, h19, hm⟩ := qD hm
   refine zP (nd Tryz.f72 116) 0 (by kernel_rfl) FUEL (fun o => qAj) (fun v st => RetQ Tryz.prog Tryz.f72 (IE v) (IC v) .ret st) u20 (q_hl (LC a1 0) (qEV E a1 FUEL 0 u20 h19)) ?_ ?_
   ·rintro v21 rfl st hr
    obtain rfl := oi hm
    exact hr
   ·rintro o18 rfl
    replace hm : _ = some r := hm
    refine s_vn [] 0 ⟨[(2, vb true)], []⟩ ?_
    obtain rfl := oi hm
    refine q_rt ?_
    exact q_rm
 ·rcases Bool.eq_false_or_eq_true (decide (((a1.size : Nat) : Int) < 1)) with b2 | b2
  ·replace hm := qB b2 hm
   refine q_vu [qf 3 b2] 0 [] [(12, vb true)] [] [] ?_
   exact q_J (true) hm
  ·replace hm := qC b2 hm
   refine q_vu [qf 3 b2] 0 [] [(12, vb (decide (((a1.size : Nat) : Int) > 16)))] [] [] ?_
   exact q_J (decide (((a1.size : Nat) : Int) > 16)) hm
def qLK (r : Bool) : V := vb r
def qLI (r : Bool) : List (Nat × (Nat × O)) := []
def qBv (x5 : Bool) : St :=
 ⟨[(2, vb x5)], []⟩
theorem IL (a1 : Product) (r : Bool) (hm : IR a1 = some r) : CtX Tryz.prog globs 114 0 0 [.agg (qA a1)] [] (qLK r) (qLI r) := by
 unfold IR at hm
 refine q_E Tryz.f114 21 fun E => ?_
 refine s_vn [] 0 ⟨[(1, vp 0 0)], [(0, bx 62 (qA a1))]⟩ ?_
 refine q_jn (ι := Bool) (fun p => qBv p) (fun p => YS p = some r) ?_ ?_
 ·rintro x5 hm
  show H _ (qBv x5) _ _
  obtain rfl := oi hm
  refine q_rt ?_
  exact q_rm
 ·rcases Bool.eq_false_or_eq_true (decide (a1.Thick ≥ 1)) with b2 | b2
  ·replace hm := qB b2 hm
   rcases Bool.eq_false_or_eq_true (decide (a1.Thick ≤ 600)) with b3 | b3
   ·replace hm := qB b3 hm
    rcases Bool.eq_false_or_eq_true (decide (a1.Width ≥ 1)) with b4 | b4
    ·replace hm := qB b4 hm
     refine q_vn [qf 3 b2, qf 8 b3, qf 13 b4] 1 ⟨[(2, vb (decide (a1.Width ≤ 600)))], []⟩ ?_
     exact q_J (decide (a1.Width ≤ 600)) hm
    ·replace hm := qC b4 hm
     refine q_vn [qf 3 b2, qf 8 b3, qf 13 b4] 1 ⟨[(2, vb false)], []⟩ ?_
     exact q_J (false) hm
   ·replace hm := qC b3 hm
    refine q_vn [qf 3 b2, qf 8 b3] 1 ⟨[(2, vb false)], []⟩ ?_
    exact q_J (false) hm
  ·replace hm := qC b2 hm
   refine q_vn [qf 3 b2] 1 ⟨[(2, vb false)], []⟩ ?_
   exact q_J (false) hm
def qLi (r : Int × Int) : V := .tup [.one (ci r.1), .one (ci r.2)]
def qLn (r : Int × Int) : List (Nat × (Nat × O)) := []
def qBi (a1 : Product) (x6 : Bool) : St :=
 ⟨[(1, vp 0 0), (16, vb x6)], [(0, bx 62 (qA a1))]⟩
theorem NV (a1 : Product) (r : Int × Int) (hm : YH a1 = some r) : CtX Tryz.prog globs 73 0 0 [.agg (qA a1)] [] (qLi r) (qLn r) := by
 unfold YH at hm
 refine q_E Tryz.f73 33 fun E => ?_
 refine s_vn [] 0 ⟨[(1, vp 0 0)], [(0, bx 62 (qA a1))]⟩ ?_
 refine q_sq ?_
 refine q_jn (ι := Bool) (fun p => qBi a1 p) (fun p => TD a1 p = some r) ?_ ?_
 ·rintro x6 hm
  show H _ (qBi a1 x6) _ _
  refine q_cn x6 (fun b7 => ?_) (fun b7 => ?_)
  ·replace hm := qB b7 hm
   refine s_vn [] 1 ⟨[(2, vi 0), (3, vi 0)], []⟩ ?_
   obtain rfl := oi hm
   refine q_rt ?_
   exact q_rm
  ·replace hm := qC b7 hm
   refine q_sk ?_
   refine s_dn [qd 7 (Dir.none) (show (1000 : Int) ≠ 0 by decide), qd 15 (Dir.none) (show (1000 : Int) ≠ 0 by decide)] [0, 1, 0, 4, 12, 31, 63, 127, 0, 256, 0, 1024, 3072, 7936, 16128, 32512, 255, 131071] 1 ⟨[(2, vi (w64 (Int.tdiv (w64 ((w64 (a1.Thick * (w64 (1000 + a1.Allow)))) + 999)) 1000))), (3, vi (w64 (Int.tdiv (w64 ((w64 (a1.Width * (w64 (1000 + a1.Allow)))) + 999)) 1000)))], []⟩ ?_
   obtain rfl := oi hm
   refine q_rt ?_
   exact q_rm
 ·obtain ⟨v2, h3, hm⟩ := qD hm
  rcases Bool.eq_false_or_eq_true (!v2) with b4 | b4
  ·replace hm := qB b4 hm
   refine q_vu [qc 1 [4] 1 (IL a1 v2 h3), qf 3 b4] 1 [] [(16, vb true)] [] [] ?_
   exact q_J (true) hm
  ·replace hm := qC b4 hm
   rcases Bool.eq_false_or_eq_true (decide (a1.Allow < 0)) with b5 | b5
   ·replace hm := qB b5 hm
    refine q_vu [qc 1 [4] 1 (IL a1 v2 h3), qf 3 b4, qf 8 b5] 1 [] [(16, vb true)] [] [] ?_
    exact q_J (true) hm
   ·replace hm := qC b5 hm
    refine q_vu [qc 1 [4] 1 (IL a1 v2 h3), qf 3 b4, qf 8 b5] 1 [] [(16, vb (decide (a1.Allow > 200)))] [] [] ?_
    exact q_J (decide (a1.Allow > 200)) hm
def ZI (r : Int) : V := vi r
def ZG (r : Int) : List (Nat × (Nat × O)) := []
def FJ (a1 : Product) (x5 : Int) (x14 : Bool) : St :=
 ⟨[(1, vp 0 0), (3, vi x5), (56, vb x14)], [(0, bx 62 (qA a1))]⟩
def FO (a1 : Product) (x5 : Int) (x9 : Bool) : St :=
 ⟨[(1, vp 0 0), (3, vi x5), (40, vb x9)], [(0, bx 62 (qA a1))]⟩
def XV (a1 : Product) (x5 : Int) : St :=
 ⟨[(1, vp 0 0), (3, vi x5)], [(0, bx 62 (qA a1))]⟩
def FH (a1 : Product) : St :=
 ⟨[(1, vp 0 0)], [(0, bx 62 (qA a1))]⟩
def FN (a1 : Product) (x20 : Int) (x24 : Bool) : St :=
 ⟨[(1, vp 0 0), (4, vi x20), (77, vb x24)], [(0, bx 62 (qA a1))]⟩
def XP (a1 : Product) (x20 : Int) : St :=
 ⟨[(1, vp 0 0), (4, vi x20)], [(0, bx 62 (qA a1))]⟩
def FL : St :=
 ⟨[], []⟩
theorem qBG (E : Env 0) (a1 : Product) : ∀ (n : Nat) (x5 : Int) (res : Int ⊕ Unit), zQ a1 n x5 = some res → HL (kx E 78 0) (nd Tryz.f74 500) (wN 0 (fun o => FH a1) (fun v st => RetQ Tryz.prog Tryz.f74 (ZI v) (ZG v) .ret st) res) n (XV a1 x5) := by
 intro n
 induction n with
 | zero =>
  intro x5 res hm
  cases hm
 | succ n ih =>
  intro x5 res hm
  refine qQ ?_
  refine q_sq ?_
  refine s_vu [] 1 [] [(24, vb (decide (x5 < ((a1.Lengths.length : Nat) : Int))))] [] [] ?_
  refine q_cn (decide (x5 < ((a1.Lengths.length : Nat) : Int))) (fun b6 => ?_) (fun b6 => ?_)
  ·replace hm := qB b6 hm
   refine q_sk ?_
   refine q_sq ?_
   refine q_bk 1 ?_
   refine q_sq ?_
   refine q_jn (ι := Bool) (fun p => FO a1 x5 p) (fun p => JH a1 x5 (zQ a1 n) p = some res) ?_ ?_
   ·rintro x9 hm
    show H _ (FO a1 x5 x9) _ _
    refine q_cn x9 (fun b10 => ?_) (fun b10 => ?_)
    ·replace hm := qB b10 hm
     refine s_vn [] 1 ⟨[(2, vi 9)], []⟩ ?_
     obtain rfl := oi hm
     refine q_rt ?_
     refine zB 9 ?_
     exact q_rm
    ·replace hm := qC b10 hm
     refine q_sk ?_
     refine q_jn (ι := Bool) (fun p => FJ a1 x5 p) (fun p => JL x5 (zQ a1 n) p = some res) ?_ ?_
     ·rintro x14 hm
      show H _ (FJ a1 x5 x14) _ _
      refine q_cn x14 (fun b15 => ?_) (fun b15 => ?_)
      ·replace hm := qB b15 hm
       refine s_vn [] 1 ⟨[(2, vi 11)], []⟩ ?_
       obtain rfl := oi hm
       refine q_rt ?_
       refine zB 11 ?_
       exact q_rm
      ·replace hm := qC b15 hm
       refine q_sk ?_
       refine q_vu [] 1 [3, 56] [(3, vi (w64 (x5 + 1)))] [] [] ?_
       exact q_hl (XV a1 (w64 (x5 + 1))) (ih (w64 (x5 + 1)) _ hm)
     ·rcases Bool.eq_false_or_eq_true (decide (x5 > 0)) with b11 | b11
      ·replace hm := qB b11 hm
       obtain ⟨g12, hm⟩ := qM hm
       obtain ⟨g13, hm⟩ := qM hm
       refine q_du [qf 2 b11, qd 6 (Dir.none) (inb_of g12), qd 12 (Dir.none) (inb_of g13)] [0, 1, 3, 7, 15, 7, 63, 127, 7, 263, 7, 1031, 3847, 7943, 16383, 32767] 1 [40] [(56, vb (decide ((a1.Lengths.getD x5.toNat default) ≤ (a1.Lengths.getD (w64 (x5 - 1)).toNat default))))] [] [] ?_
       exact q_J (decide ((a1.Lengths.getD x5.toNat default) ≤ (a1.Lengths.getD (w64 (x5 - 1)).toNat default))) hm
      ·replace hm := qC b11 hm
       refine q_du [qf 2 b11] [0, 1, 3, 7, 15, 7, 63, 127, 7, 263, 7, 1031, 3847, 7943, 16383, 32767] 1 [40] [(56, vb false)] [] [] ?_
       exact q_J (false) hm
   ·obtain ⟨g7, hm⟩ := qM hm
    rcases Bool.eq_false_or_eq_true (decide ((a1.Lengths.getD x5.toNat default) < 100)) with b8 | b8
    ·replace hm := qB b8 hm
     refine q_vu [qd 3 (Dir.none) (inb_of g7), qf 6 b8] 1 [24] [(40, vb true)] [] [] ?_
     exact q_J (true) hm
    ·replace hm := qC b8 hm
     refine q_vu [qd 3 (Dir.none) (inb_of g7), qf 6 b8, qd 10 (Dir.none) (inb_of g7)] 1 [24] [(40, vb (decide ((a1.Lengths.getD x5.toNat default) > 20000)))] [] [] ?_
     exact q_J (decide ((a1.Lengths.getD x5.toNat default) > 20000)) hm
  ·replace hm := qC b6 hm
   refine q_ex 0 ?_
   obtain rfl := oi hm
   exact wR () (by kernel_rfl) (by kernel_rfl)
theorem qBs (E : Env 0) (a1 : Product) : ∀ (n : Nat) (x20 : Int) (res : Int ⊕ Unit), zW a1 n x20 = some res → HL (kx E 78 0) (nd Tryz.f74 1012) (wN 2 (fun o => FL) (fun v st => RetQ Tryz.prog Tryz.f74 (ZI v) (ZG v) .ret st) res) n (XP a1 x20) := by
 intro n
 induction n with
 | zero =>
  intro x20 res hm
  cases hm
 | succ n ih =>
  intro x20 res hm
  refine qQ ?_
  refine q_sq ?_
  refine s_vu [] 1 [] [(61, vb (decide (x20 < ((a1.Prices.length : Nat) : Int))))] [] [] ?_
  refine q_cn (decide (x20 < ((a1.Prices.length : Nat) : Int))) (fun b21 => ?_) (fun b21 => ?_)
  ·replace hm := qB b21 hm
   refine q_sk ?_
   refine q_sq ?_
   refine q_bk 3 ?_
   refine q_jn (ι := Bool) (fun p => FN a1 x20 p) (fun p => JP x20 (zW a1 n) p = some res) ?_ ?_
   ·rintro x24 hm
    show H _ (FN a1 x20 x24) _ _
    refine q_cn x24 (fun b25 => ?_) (fun b25 => ?_)
    ·replace hm := qB b25 hm
     refine s_vn [] 1 ⟨[(2, vi 9)], []⟩ ?_
     obtain rfl := oi hm
     refine q_rt ?_
     refine zB 9 ?_
     exact q_rm
    ·replace hm := qC b25 hm
     refine q_sk ?_
     refine q_vu [] 1 [4, 77] [(4, vi (w64 (x20 + 1)))] [] [] ?_
     exact q_hl (XP a1 (w64 (x20 + 1))) (ih (w64 (x20 + 1)) _ hm)
   ·obtain ⟨g22, hm⟩ := qM hm
    rcases Bool.eq_false_or_eq_true (decide ((a1.Prices.getD x20.toNat default) < 0)) with b23 | b23
    ·replace hm := qB b23 hm
     refine q_vu [qd 3 (Dir.none) (inb_of g22), qf 6 b23] 1 [61] [(77, vb true)] [] [] ?_
     exact q_J (true) hm
    ·replace hm := qC b23 hm
     refine q_vu [qd 3 (Dir.none) (inb_of g22), qf 6 b23, qd 10 (Dir.none) (inb_of g22)] 1 [61] [(77, vb (decide ((a1.Prices.getD x20.toNat default) > 1000000)))] [] [] ?_
     exact q_J (decide ((a1.Prices.getD x20.toNat default) > 1000000)) hm
  ·replace hm := qC b21 hm
   refine q_ex 2 ?_
   obtain rfl := oi hm
   exact wR () (by kernel_rfl) (by kernel_rfl)
theorem qDw (a1 : Product) (r : Int) (hm : WY a1 = some r) : CtX Tryz.prog globs 74 0 0 [.agg (qA a1)] [] (ZI r) (ZG r) := by
 unfold WY at hm
 refine q_E Tryz.f74 78 fun E => ?_
 refine s_vn [] 0 ⟨[(1, vp 0 0)], [(0, bx 62 (qA a1))]⟩ ?_
 refine q_sq ?_
 refine s_vu [] 1 [] [(8, vb (((a1.Lengths.length : Nat) : Int) == 0))] [] [] ?_
 refine q_cn (((a1.Lengths.length : Nat) : Int) == 0) (fun b2 => ?_) (fun b2 => ?_)
 ·replace hm := qB b2 hm
  refine s_vn [] 1 ⟨[(2, vi 3)], []⟩ ?_
  obtain rfl := oi hm
  refine q_rt ?_
  exact q_rm
 ·replace hm := qC b2 hm
  refine q_sk ?_
  refine q_sq ?_
  refine s_vu [] 1 [8] [(12, vb (decide (((a1.Lengths.length : Nat) : Int) > 8)))] [] [] ?_
  refine q_cn (decide (((a1.Lengths.length : Nat) : Int) > 8)) (fun b3 => ?_) (fun b3 => ?_)
  ·replace hm := qB b3 hm
   refine s_vn [] 1 ⟨[(2, vi 4)], []⟩ ?_
   obtain rfl := oi hm
   refine q_rt ?_
   exact q_rm
  ·replace hm := qC b3 hm
   refine q_sk ?_
   refine q_sq ?_
   refine s_vu [] 1 [12] [(19, vb (((a1.Prices.length : Nat) : Int) != ((a1.Lengths.length : Nat) : Int)))] [] [] ?_
   refine q_cn (((a1.Prices.length : Nat) : Int) != ((a1.Lengths.length : Nat) : Int)) (fun b4 => ?_) (fun b4 => ?_)
   ·replace hm := qB b4 hm
    refine s_vn [] 1 ⟨[(2, vi 19)], []⟩ ?_
    obtain rfl := oi hm
    refine q_rt ?_
    exact q_rm
   ·replace hm := qC b4 hm
    refine q_sk ?_
    refine q_sq ?_
    refine s_vu [] 1 [19] [(3, vi 0)] [] [] ?_
    obtain ⟨u18, h17, hm⟩ := qD hm
    refine zP (nd Tryz.f74 500) 0 (by kernel_rfl) FUEL (fun o => FH a1) (fun v st => RetQ Tryz.prog Tryz.f74 (ZI v) (ZG v) .ret st) u18 (q_hl (XV a1 0) (qBG E a1 FUEL 0 u18 h17)) ?_ ?_
    ·rintro v19 rfl st hr
     obtain rfl := oi hm
     exact hr
    ·rintro o16 rfl
     replace hm : _ = some r := hm
     refine q_sq ?_
     refine s_vu [] 1 [] [(4, vi 0)] [] [] ?_
     obtain ⟨u28, h27, hm⟩ := qD hm
     refine zP (nd Tryz.f74 1012) 2 (by kernel_rfl) FUEL (fun o => FL) (fun v st => RetQ Tryz.prog Tryz.f74 (ZI v) (ZG v) .ret st) u28 (q_hl (XP a1 0) (qBs E a1 FUEL 0 u28 h27)) ?_ ?_
     ·rintro v29 rfl st hr
      obtain rfl := oi hm
      exact hr
     ·rintro o26 rfl
      replace hm : _ = some r := hm
      refine s_vn [] 1 ⟨[(2, vi 0)], []⟩ ?_
      obtain rfl := oi hm
      refine q_rt ?_
      exact q_rm
def KI (r : Int) : V := vi r
def ZL (r : Int) : List (Nat × (Nat × O)) := []
theorem qLB (r : Int) : VB (ZL r) := by
 intro i k o h
 unfold ZL at h
 cases h
def MS (a1 : List Product) (x3 : Int) (x9 : Int) : St :=
 ⟨[(0, vc (tl qA default a1)), (3, vi x3), (4, vp 0 0), (5, vi x9)], [(0, bx 62 [cs ((a1.getD x3.toNat default).Name), ci ((a1.getD x3.toNat default).Thick), ci ((a1.getD x3.toNat default).Width), ci ((a1.getD x3.toNat default).Allow), ci ((a1.getD x3.toNat default).Wane), tl qO default ((a1.getD x3.toNat default).Lengths), tl qO default ((a1.getD x3.toNat default).Prices)])]⟩
def qBw (a1 : List Product) (x3 : Int) : St :=
 ⟨[(0, vc (tl qA default a1)), (3, vi x3), (4, vp 0 0)], [(0, bx 62 [cs ((a1.getD x3.toNat default).Name), ci ((a1.getD x3.toNat default).Thick), ci ((a1.getD x3.toNat default).Width), ci ((a1.getD x3.toNat default).Allow), ci ((a1.getD x3.toNat default).Wane), tl qO default ((a1.getD x3.toNat default).Lengths), tl qO default ((a1.getD x3.toNat default).Prices)])]⟩
def qBF (a1 : List Product) (x3 : Int) (x24 : Bool) : St :=
 ⟨[(0, vc (tl qA default a1)), (3, vi x3), (4, vp 0 0), (78, vb x24)], [(0, bx 62 [cs ((a1.getD x3.toNat default).Name), ci ((a1.getD x3.toNat default).Thick), ci ((a1.getD x3.toNat default).Width), ci ((a1.getD x3.toNat default).Allow), ci ((a1.getD x3.toNat default).Wane), tl qO default ((a1.getD x3.toNat default).Lengths), tl qO default ((a1.getD x3.toNat default).Prices)])]⟩
def MW (a1 : List Product) (x3 : Int) : St :=
 ⟨[(0, vc (tl qA default a1)), (3, vi x3)], []⟩
def qBm : St :=
 ⟨[], []⟩
theorem qF4 (E : Env 0) (a1 : List Product) (x3 : Int) : ∀ (n : Nat) (x9 : Int) (res : Int ⊕ Unit), WE a1 x3 n x9 = some res → HL (kx E 91 0) (nd Tryz.f37 59700) (wN 2 (fun o => qBw a1 x3) (fun v st => RetQ Tryz.prog Tryz.f37 (KI v) (ZL v) .ret st) res) n (MS a1 x3 x9) := by
 intro n
 induction n with
 | zero =>
  intro x9 res hm
  cases hm
 | succ n ih =>
  intro x9 res hm
  refine qQ ?_
  refine q_sq ?_
  refine s_vu [] 1 [] [(28, vb (decide (x9 < x3)))] [] [] ?_
  refine q_cn (decide (x9 < x3)) (fun b10 => ?_) (fun b10 => ?_)
  ·replace hm := qB b10 hm
   refine q_sk ?_
   refine q_sq ?_
   refine q_bk 3 ?_
   obtain ⟨g11, hm⟩ := qM hm
   refine s_du [qd 2 (Dir.none) (inb_of g11)] [0, 0, 3, 7, 15, 0, 32, 127] 1 [28] [(38, vb (strEq ((a1.getD x9.toNat default).Name) ((a1.getD x3.toNat default).Name)))] [] [] ?_
   refine q_cn (strEq ((a1.getD x9.toNat default).Name) ((a1.getD x3.toNat default).Name)) (fun b12 => ?_) (fun b12 => ?_)
   ·replace hm := qB b12 hm
    refine s_vn [] 1 ⟨[(2, vi 7)], []⟩ ?_
    obtain rfl := oi hm
    refine q_rt ?_
    refine zB 7 ?_
    exact q_rm
   ·replace hm := qC b12 hm
    refine q_sk ?_
    refine q_vu [] 1 [5, 38] [(5, vi (w64 (x9 + 1)))] [] [] ?_
    exact q_hl (MS a1 x3 (w64 (x9 + 1))) (ih (w64 (x9 + 1)) _ hm)
  ·replace hm := qC b10 hm
   refine q_ex 2 ?_
   obtain rfl := oi hm
   exact wR () (by kernel_rfl) (by kernel_rfl)
theorem qF0 (E : Env 0) (a1 : List Product) : ∀ (n : Nat) (x3 : Int) (res : Int ⊕ Unit), zT a1 n x3 = some res → HL (kx E 91 0) (nd Tryz.f37 116) (wN 0 (fun o => qBm) (fun v st => RetQ Tryz.prog Tryz.f37 (KI v) (ZL v) .ret st) res) n (MW a1 x3) := by
 intro n
 induction n with
 | zero =>
  intro x3 res hm
  cases hm
 | succ n ih =>
  intro x3 res hm
  refine qQ ?_
  refine q_sq ?_
  refine s_vu [] 0 [] [(15, vb (decide (x3 < ((a1.length : Nat) : Int))))] [] [] ?_
  refine q_cn (decide (x3 < ((a1.length : Nat) : Int))) (fun b4 => ?_) (fun b4 => ?_)
  ·replace hm := qB b4 hm
   refine q_sk ?_
   refine q_sq ?_
   refine q_bk 1 ?_
   obtain ⟨g5, hm⟩ := qM hm
   refine s_vu [qd 2 (Dir.none) (inb_of g5)] 0 [15] [(4, vp 0 0)] [] [(0, bx 62 [cs ((a1.getD x3.toNat default).Name), ci ((a1.getD x3.toNat default).Thick), ci ((a1.getD x3.toNat default).Width), ci ((a1.getD x3.toNat default).Allow), ci ((a1.getD x3.toNat default).Wane), tl qO default ((a1.getD x3.toNat default).Lengths), tl qO default ((a1.getD x3.toNat default).Prices)])] ?_
   refine q_sq ?_
   obtain ⟨v6, h7, hm⟩ := qD hm
   refine s_vu [qc 2 [23] 1 (qIh ((a1.getD x3.toNat default).Name) v6 h7)] 1 [] [(25, vb (!v6))] [] [] ?_
   refine q_cn (!v6) (fun b8 => ?_) (fun b8 => ?_)
   ·replace hm := qB b8 hm
    refine s_vn [] 1 ⟨[(2, vi 6)], []⟩ ?_
    obtain rfl := oi hm
    refine q_rt ?_
    refine zB 6 ?_
    exact q_rm
   ·replace hm := qC b8 hm
    refine q_sk ?_
    refine q_sq ?_
    refine s_vu [] 1 [25] [(5, vi 0)] [] [] ?_
    obtain ⟨u15, h14, hm⟩ := qD hm
    refine zP (nd Tryz.f37 59700) 2 (by kernel_rfl) FUEL (fun o => qBw a1 x3) (fun v st => RetQ Tryz.prog Tryz.f37 (KI v) (ZL v) .ret st) u15 (q_hl (MS a1 x3 0) (qF4 E a1 x3 FUEL 0 u15 h14)) ?_ ?_
    ·rintro v16 rfl st hr
     obtain rfl := oi hm
     exact zB v16 hr
    ·rintro o13 rfl
     replace hm : _ = some res := hm
     refine q_sq ?_
     refine q_jn (ι := Bool) (fun p => qBF a1 x3 p) (fun p => jL a1 x3 (zT a1 n) p = some res) ?_ ?_
     ·rintro x24 hm
      show H _ (qBF a1 x3 x24) _ _
      refine q_cn x24 (fun b25 => ?_) (fun b25 => ?_)
      ·replace hm := qB b25 hm
       refine s_vn [] 1 ⟨[(2, vi 9)], []⟩ ?_
       obtain rfl := oi hm
       refine q_rt ?_
       refine zB 9 ?_
       exact q_rm
      ·replace hm := qC b25 hm
       refine q_sk ?_
       refine q_sq ?_
       obtain ⟨v26, h27, hm⟩ := qD hm
       refine s_vu [qc 1 [80] 1 (NV (a1.getD x3.toNat default) v26 h27)] 1 [78] [(7, vi v26.2)] [] [] ?_
       refine s_vu [] 1 [7] [(85, vb (decide (v26.2 > 600)))] [] [] ?_
       refine q_cn (decide (v26.2 > 600)) (fun b28 => ?_) (fun b28 => ?_)
       ·replace hm := qB b28 hm
        refine s_vn [] 1 ⟨[(2, vi 9)], []⟩ ?_
        obtain rfl := oi hm
        refine q_rt ?_
        refine zB 9 ?_
        exact q_rm
       ·replace hm := qC b28 hm
        refine q_sk ?_
        obtain ⟨v29, h30, hm⟩ := qD hm
        refine s_vu [qc 1 [86] 1 (qDw (a1.getD x3.toNat default) v29 h30)] 1 [4, 85] [(8, vi v29)] [0] [] ?_
        refine s_vu [] 1 [] [(89, vb (v29 != 0))] [] [] ?_
        refine q_cn (v29 != 0) (fun b31 => ?_) (fun b31 => ?_)
        ·replace hm := qB b31 hm
         refine s_vn [] 1 ⟨[(2, vi v29)], []⟩ ?_
         obtain rfl := oi hm
         refine q_rt ?_
         refine zB v29 ?_
         exact q_rm
        ·replace hm := qC b31 hm
         refine q_sk ?_
         refine q_vu [] 1 [3, 8, 89] [(3, vi (w64 (x3 + 1)))] [] [] ?_
         exact q_hl (MW a1 (w64 (x3 + 1))) (ih (w64 (x3 + 1)) _ hm)
     ·rcases Bool.eq_false_or_eq_true (decide (((a1.getD x3.toNat default).Thick) < 5)) with b17 | b17
      ·replace hm := qB b17 hm
       refine q_vu [qf 3 b17] 1 [] [(78, vb true)] [] [] ?_
       exact q_J (true) hm
      ·replace hm := qC b17 hm
       rcases Bool.eq_false_or_eq_true (decide (((a1.getD x3.toNat default).Thick) > 300)) with b18 | b18
       ·replace hm := qB b18 hm
        refine q_vu [qf 3 b17, qf 8 b18] 1 [] [(78, vb true)] [] [] ?_
        exact q_J (true) hm
       ·replace hm := qC b18 hm
        rcases Bool.eq_false_or_eq_true (decide (((a1.getD x3.toNat default).Width) < ((a1.getD x3.toNat default).Thick))) with b19 | b19
        ·replace hm := qB b19 hm
         refine q_vu [qf 3 b17, qf 8 b18, qf 15 b19] 1 [] [(78, vb true)] [] [] ?_
         exact q_J (true) hm
        ·replace hm := qC b19 hm
         rcases Bool.eq_false_or_eq_true (decide (((a1.getD x3.toNat default).Width) > 600)) with b20 | b20
         ·replace hm := qB b20 hm
          refine q_vu [qf 3 b17, qf 8 b18, qf 15 b19, qf 20 b20] 1 [] [(78, vb true)] [] [] ?_
          exact q_J (true) hm
         ·replace hm := qC b20 hm
          rcases Bool.eq_false_or_eq_true (decide (((a1.getD x3.toNat default).Allow) < 0)) with b21 | b21
          ·replace hm := qB b21 hm
           refine q_vu [qf 3 b17, qf 8 b18, qf 15 b19, qf 20 b20, qf 25 b21] 1 [] [(78, vb true)] [] [] ?_
           exact q_J (true) hm
          ·replace hm := qC b21 hm
           rcases Bool.eq_false_or_eq_true (decide (((a1.getD x3.toNat default).Allow) > 200)) with b22 | b22
           ·replace hm := qB b22 hm
            refine q_vu [qf 3 b17, qf 8 b18, qf 15 b19, qf 20 b20, qf 25 b21, qf 30 b22] 1 [] [(78, vb true)] [] [] ?_
            exact q_J (true) hm
           ·replace hm := qC b22 hm
            rcases Bool.eq_false_or_eq_true (decide (((a1.getD x3.toNat default).Wane) < 0)) with b23 | b23
            ·replace hm := qB b23 hm
             refine q_vu [qf 3 b17, qf 8 b18, qf 15 b19, qf 20 b20, qf 25 b21, qf 30 b22, qf 35 b23] 1 [] [(78, vb true)] [] [] ?_
             exact q_J (true) hm
            ·replace hm := qC b23 hm
             refine q_vu [qf 3 b17, qf 8 b18, qf 15 b19, qf 20 b20, qf 25 b21, qf 30 b22, qf 35 b23] 1 [] [(78, vb (decide (((a1.getD x3.toNat default).Wane) > 1000)))] [] [] ?_
             exact q_J (decide (((a1.getD x3.toNat default).Wane) > 1000)) hm
  ·replace hm := qC b4 hm
   refine q_ex 0 ?_
   obtain rfl := oi hm
   exact wR () (by kernel_rfl) (by kernel_rfl)
theorem qDy (a1 : List Product) (r : Int) (hm : VU a1 = some r) : CtX Tryz.prog globs 37 0 0 [.one (tl qA default a1)] [] (KI r) (ZL r) := by
 unfold VU at hm
 refine q_E Tryz.f37 91 fun E => ?_
 refine s_vn [] 0 ⟨[(0, vc (tl qA default a1))], []⟩ ?_
 refine q_sq ?_
 refine s_vu [] 0 [] [(11, vb (decide (((a1.length : Nat) : Int) > 16)))] [] [] ?_
 refine q_cn (decide (((a1.length : Nat) : Int) > 16)) (fun b2 => ?_) (fun b2 => ?_)
 ·replace hm := qB b2 hm
  refine s_vn [] 0 ⟨[(2, vi 4)], []⟩ ?_
  obtain rfl := oi hm
  refine q_rt ?_
  exact q_rm
 ·replace hm := qC b2 hm
  refine q_sk ?_
  refine q_sq ?_
  refine s_vu [] 0 [11] [(3, vi 0)] [] [] ?_
  obtain ⟨u34, h33, hm⟩ := qD hm
  refine zP (nd Tryz.f37 116) 0 (by kernel_rfl) FUEL (fun o => qBm) (fun v st => RetQ Tryz.prog Tryz.f37 (KI v) (ZL v) .ret st) u34 (q_hl (MW a1 0) (qF0 E a1 FUEL 0 u34 h33)) ?_ ?_
  ·rintro v35 rfl st hr
   obtain rfl := oi hm
   exact hr
  ·rintro o32 rfl
   replace hm : _ = some r := hm
   refine s_vn [] 0 ⟨[(2, vi 0)], []⟩ ?_
   obtain rfl := oi hm
   refine q_rt ?_
   exact q_rm
def qM6 (r : Bool) : V := vb r
def qNl (r : Bool) : List (Nat × (Nat × O)) := []
def qCb (x5 : Bool) : St :=
 ⟨[(6, vb x5)], []⟩
theorem zE (a1 : Int) (a2 : Int) (a3 : Int) (r : Bool) (hm : yM a1 a2 a3 = some r) : CtX Tryz.prog globs 41 0 0 [.one (ci a1), .one (ci a2), .one (ci a3)] [] (qM6 r) (qNl r) := by
 unfold yM at hm
 refine q_E Tryz.f41 15 fun E => ?_
 refine s_vn [] 0 ⟨[(0, vi a1), (1, vi a2), (2, vi a3)], []⟩ ?_
 refine q_jn (ι := Bool) (fun p => qCb p) (fun p => MO p = some r) ?_ ?_
 ·rintro x5 hm
  show H _ (qCb x5) _ _
  obtain rfl := oi hm
  refine q_rt ?_
  exact q_rm
 ·rcases Bool.eq_false_or_eq_true (decide (a1 ≥ a2)) with b4 | b4
  ·replace hm := qB b4 hm
   refine q_vn [qf 3 b4] 0 ⟨[(6, vb (decide (a1 ≤ a3)))], []⟩ ?_
   exact q_J (decide (a1 ≤ a3)) hm
  ·replace hm := qC b4 hm
   refine q_vn [qf 3 b4] 0 ⟨[(6, vb false)], []⟩ ?_
   exact q_J (false) hm
def qLz (r : Int) : V := vi r
def qLD (r : Int) : List (Nat × (Nat × O)) := []
def qBY (x24 : Bool) : St :=
 ⟨[(42, vb x24)], []⟩
def qBS (a2 : Rates) (x14 : Bool) : St :=
 ⟨[(3, vp 1 0), (26, vb x14)], [(1, bx 35 (wM a2))]⟩
theorem qJw (a1 : Saw) (a2 : Rates) (r : Int) (hm : MA a1 a2 = some r) : CtX Tryz.prog globs 38 0 0 [.agg (zZ a1), .agg (wM a2)] [] (qLz r) (qLD r) := by
 unfold MA at hm
 refine q_E Tryz.f38 43 fun E => ?_
 refine s_vn [] 0 ⟨[(2, vp 0 0), (3, vp 1 0)], [(0, bx 33 (zZ a1)), (1, bx 35 (wM a2))]⟩ ?_
 refine q_sq ?_
 refine q_jn (ι := Bool) (fun p => qBS a2 p) (fun p => YT a2 p = some r) ?_ ?_
 ·rintro x14 hm
  show H _ (qBS a2 x14) _ _
  refine q_cn x14 (fun b15 => ?_) (fun b15 => ?_)
  ·replace hm := qB b15 hm
   refine s_vn [] 2 ⟨[(4, vi 9)], []⟩ ?_
   obtain rfl := oi hm
   refine q_rt ?_
   exact q_rm
  ·replace hm := qC b15 hm
   refine q_sk ?_
   refine q_sq ?_
   refine q_jn (ι := Bool) (fun p => qBY p) (fun p => RD p = some r) ?_ ?_
   ·rintro x24 hm
    show H _ (qBY x24) _ _
    refine q_cn x24 (fun b25 => ?_) (fun b25 => ?_)
    ·replace hm := qB b25 hm
     refine s_vn [] 2 ⟨[(4, vi 9)], []⟩ ?_
     obtain rfl := oi hm
     refine q_rt ?_
     exact q_rm
    ·replace hm := qC b25 hm
     refine q_sk ?_
     refine s_vn [] 2 ⟨[(4, vi 0)], []⟩ ?_
     obtain rfl := oi hm
     refine q_rt ?_
     exact q_rm
   ·obtain ⟨v16, h17, hm⟩ := qD hm
    rcases Bool.eq_false_or_eq_true (!v16) with b18 | b18
    ·replace hm := qB b18 hm
     refine q_vn [qk 2 [28] 2 ⟨[(28, vi a2.Chip)], []⟩ (zE a2.Chip 0 1000 v16 h17), qf 4 b18] 2 ⟨[(42, vb true)], []⟩ ?_
     exact q_J (true) hm
    ·replace hm := qC b18 hm
     obtain ⟨v19, h20, hm⟩ := qD hm
     rcases Bool.eq_false_or_eq_true (!v19) with b21 | b21
     ·replace hm := qB b21 hm
      refine q_vn [qk 2 [28] 2 ⟨[(28, vi a2.Chip)], []⟩ (zE a2.Chip 0 1000 v16 h17), qf 4 b18, qk 7 [31, 33] 2 ⟨[(31, vb false), (33, vi a2.Dust)], []⟩ (zE a2.Dust 0 1000 v19 h20), qf 10 b21] 2 ⟨[(42, vb true)], []⟩ ?_
      exact q_J (true) hm
     ·replace hm := qC b21 hm
      obtain ⟨v22, h23, hm⟩ := qD hm
      refine q_vn [qk 2 [28] 2 ⟨[(28, vi a2.Chip)], []⟩ (zE a2.Chip 0 1000 v16 h17), qf 4 b18, qk 7 [31, 33] 2 ⟨[(31, vb false), (33, vi a2.Dust)], []⟩ (zE a2.Dust 0 1000 v19 h20), qf 10 b21, qk 13 [37, 39] 2 ⟨[(37, vb false), (39, vi a2.Fine)], []⟩ (zE a2.Fine 0 1000000 v22 h23)] 2 ⟨[(42, vb (!v22))], []⟩ ?_
      exact q_J (!v22) hm
 ·obtain ⟨v3, h4, hm⟩ := qD hm
  rcases Bool.eq_false_or_eq_true (!v3) with b5 | b5
  ·replace hm := qB b5 hm
   refine q_vu [qk 2 [6] 2 ⟨[(6, vi a1.Kerf)], []⟩ (zE a1.Kerf 0 20 v3 h4), qf 4 b5] 2 [2] [(26, vb true)] [0] [] ?_
   exact q_J (true) hm
  ·replace hm := qC b5 hm
   obtain ⟨v6, h7, hm⟩ := qD hm
   rcases Bool.eq_false_or_eq_true (!v6) with b8 | b8
   ·replace hm := qB b8 hm
    refine q_vu [qk 2 [6] 2 ⟨[(6, vi a1.Kerf)], []⟩ (zE a1.Kerf 0 20 v3 h4), qf 4 b5, qk 7 [9, 11] 2 ⟨[(9, vb false), (11, vi a1.Trim)], []⟩ (zE a1.Trim 0 20 v6 h7), qf 10 b8] 2 [2] [(26, vb true)] [0] [] ?_
    exact q_J (true) hm
   ·replace hm := qC b8 hm
    obtain ⟨v9, h10, hm⟩ := qD hm
    rcases Bool.eq_false_or_eq_true (!v9) with b11 | b11
    ·replace hm := qB b11 hm
     refine q_vu [qk 2 [6] 2 ⟨[(6, vi a1.Kerf)], []⟩ (zE a1.Kerf 0 20 v3 h4), qf 4 b5, qk 7 [9, 11] 2 ⟨[(9, vb false), (11, vi a1.Trim)], []⟩ (zE a1.Trim 0 20 v6 h7), qf 10 b8, qk 13 [15, 17] 2 ⟨[(15, vb false), (17, vi a1.Pitch)], []⟩ (zE a1.Pitch 1 2000 v9 h10), qf 16 b11] 2 [2] [(26, vb true)] [0] [] ?_
     exact q_J (true) hm
    ·replace hm := qC b11 hm
     obtain ⟨v12, h13, hm⟩ := qD hm
     refine q_vu [qk 2 [6] 2 ⟨[(6, vi a1.Kerf)], []⟩ (zE a1.Kerf 0 20 v3 h4), qf 4 b5, qk 7 [9, 11] 2 ⟨[(9, vb false), (11, vi a1.Trim)], []⟩ (zE a1.Trim 0 20 v6 h7), qf 10 b8, qk 13 [15, 17] 2 ⟨[(15, vb false), (17, vi a1.Pitch)], []⟩ (zE a1.Pitch 1 2000 v9 h10), qf 16 b11, qk 19 [21, 23] 2 ⟨[(21, vb false), (23, vi a1.Step)], []⟩ (zE a1.Step 1 20000 v12 h13)] 2 [2] [(26, vb (!v12))] [0] [] ?_
     exact q_J (!v12) hm
def qJM (r : Bool) : V := vb r
def qJJ (r : Bool) : List (Nat × (Nat × O)) := []
def qAD (x7 : Bool) : St :=
 ⟨[(2, vb x7)], []⟩
theorem qHO (a1 : Rect) (r : Bool) (hm : BB a1 = some r) : CtX Tryz.prog globs 75 0 0 [.agg (qE a1)] [] (qJM r) (qJJ r) := by
 unfold BB at hm
 refine q_E Tryz.f75 43 fun E => ?_
 refine s_vn [] 0 ⟨[(1, vp 0 0)], [(0, bx 28 (qE a1))]⟩ ?_
 refine q_jn (ι := Bool) (fun p => qAD p) (fun p => yX p = some r) ?_ ?_
 ·rintro x7 hm
  show H _ (qAD x7) _ _
  obtain rfl := oi hm
  refine q_rt ?_
  exact q_rm
 ·rcases Bool.eq_false_or_eq_true (decide (a1.X.A < a1.X.B)) with b2 | b2
  ·replace hm := qB b2 hm
   rcases Bool.eq_false_or_eq_true (decide (a1.Y.A < a1.Y.B)) with b3 | b3
   ·replace hm := qB b3 hm
    rcases Bool.eq_false_or_eq_true (decide (a1.X.A ≥ (-600))) with b4 | b4
    ·replace hm := qB b4 hm
     rcases Bool.eq_false_or_eq_true (decide (a1.X.B ≤ 600)) with b5 | b5
     ·replace hm := qB b5 hm
      rcases Bool.eq_false_or_eq_true (decide (a1.Y.A ≥ (-600))) with b6 | b6
      ·replace hm := qB b6 hm
       refine q_vn [qf 7 b2, qf 16 b3, qf 22 b4, qf 28 b5, qf 34 b6] 1 ⟨[(2, vb (decide (a1.Y.B ≤ 600)))], []⟩ ?_
       exact q_J (decide (a1.Y.B ≤ 600)) hm
      ·replace hm := qC b6 hm
       refine q_vn [qf 7 b2, qf 16 b3, qf 22 b4, qf 28 b5, qf 34 b6] 1 ⟨[(2, vb false)], []⟩ ?_
       exact q_J (false) hm
     ·replace hm := qC b5 hm
      refine q_vn [qf 7 b2, qf 16 b3, qf 22 b4, qf 28 b5] 1 ⟨[(2, vb false)], []⟩ ?_
      exact q_J (false) hm
    ·replace hm := qC b4 hm
     refine q_vn [qf 7 b2, qf 16 b3, qf 22 b4] 1 ⟨[(2, vb false)], []⟩ ?_
     exact q_J (false) hm
   ·replace hm := qC b3 hm
    refine q_vn [qf 7 b2, qf 16 b3] 1 ⟨[(2, vb false)], []⟩ ?_
    exact q_J (false) hm
  ·replace hm := qC b2 hm
   refine q_vn [qf 7 b2] 1 ⟨[(2, vb false)], []⟩ ?_
   exact q_J (false) hm
def SX (a1 : Node) (a2 : Rect) (a3 : List Node) (a4 : List Product) (a5 : Bool) (a6 : Int) (a7 : Int) (a8 : List Leaf) (r : Int) : V := vi r
def EC (a1 : Node) (a2 : Rect) (a3 : List Node) (a4 : List Product) (a5 : Bool) (a6 : Int) (a7 : Int) (a8 : List Leaf) (r : Int) : List (Nat × (Nat × O)) := [(0, bx 143 [tl qJ default a3, tl qA default a4, cb a5, ci a6, ci a7, .own 1 0 5 a8.length, .emp]), (1, ro 0 78 5 a8.length (rf qG a8))]
def FQ (a3 : List Node) (a4 : List Product) (a5 : Bool) (a6 : Int) (a7 : Int) (a8 : List Leaf) (x11 : Bool) : St :=
 ⟨[(23, vb x11)], [(0, bx 143 [tl qJ default a3, tl qA default a4, cb a5, ci a6, ci a7, .own 1 0 5 a8.length, .emp]), (1, ro 0 78 5 a8.length (rf qG a8))]⟩
def FK (a3 : List Node) (a4 : List Product) (a5 : Bool) (a6 : Int) (a7 : Int) (a8 : List Leaf) (x23 : Bool) : St :=
 ⟨[(80, vb x23)], [(0, bx 143 [tl qJ default a3, tl qA default a4, cb a5, ci a6, ci a7, .own 1 0 5 a8.length, .emp]), (1, ro 0 78 5 a8.length (rf qG a8))]⟩
def FI (a1 : Node) (a2 : Rect) (a3 : List Node) (a4 : List Product) (a5 : Bool) (a6 : Int) (a7 : Int) (a8 : List Leaf) (x14 : Bool) : St :=
 ⟨[(0, vp 0 0), (4, vp 2 0), (5, vp 3 0), (36, vb x14)], [(0, bx 143 [tl qJ default a3, tl qA default a4, cb a5, ci a6, ci a7, .own 1 0 5 a8.length, .emp]), (1, ro 0 78 5 a8.length (rf qG a8)), (2, bx 65 (qJ a1)), (3, bx 28 (qE a2))]⟩
theorem qDq (a1 : Node) (a2 : Rect) (a3 : List Node) (a4 : List Product) (a5 : Bool) (a6 : Int) (a7 : Int) (a8 : List Leaf) (r : Int) (hm : JD a1 a2 a3 a4 a5 a6 a7 a8 = some r) : CtX Tryz.prog globs 115 2 1 [.one (.bptr 0 0 0), .agg (qJ a1), .agg (qE a2)] [(0, bx 143 [tl qJ default a3, tl qA default a4, cb a5, ci a6, ci a7, .own 1 0 5 a8.length, .emp]), (1, ro 0 78 5 a8.length (rf qG a8))] (SX a1 a2 a3 a4 a5 a6 a7 a8 r) (EC a1 a2 a3 a4 a5 a6 a7 a8 r) := by
 unfold JD at hm
 refine q_E Tryz.f115 81 fun E => ?_
 refine s_vn [] 2 ⟨[(0, vp 0 0), (4, vp 2 0), (5, vp 3 0)], [(0, bx 143 [tl qJ default a3, tl qA default a4, cb a5, ci a6, ci a7, .own 1 0 5 a8.length, .emp]), (1, ro 0 78 5 a8.length (rf qG a8)), (2, bx 65 (qJ a1)), (3, bx 28 (qE a2))]⟩ ?_
 refine q_sq ?_
 refine s_vu [] 4 [] [(15, vb (!a5))] [] [] ?_
 refine q_cn (!a5) (fun b9 => ?_) (fun b9 => ?_)
 ·replace hm := qB b9 hm
  refine q_sq ?_
  refine q_jn (ι := Bool) (fun p => FQ a3 a4 a5 a6 a7 a8 p) (fun p => RB p = some r) ?_ ?_
  ·rintro x11 hm
   show H _ (FQ a3 a4 a5 a6 a7 a8 x11) _ _
   refine q_cn x11 (fun b12 => ?_) (fun b12 => ?_)
   ·replace hm := qB b12 hm
    refine s_vu [] 4 [23] [(6, vi 8)] [] [] ?_
    obtain rfl := oi hm
    refine q_rt ?_
    exact q_rm
   ·replace hm := qC b12 hm
    refine q_sk ?_
    refine s_vu [] 4 [23] [(6, vi 0)] [] [] ?_
    obtain rfl := oi hm
    refine q_rt ?_
    exact q_rm
  ·rcases Bool.eq_false_or_eq_true (decide (a1.At < 0)) with b10 | b10
   ·replace hm := qB b10 hm
    refine q_vu [qf 3 b10] 4 [0, 4, 5, 15] [(23, vb true)] [2, 3] [] ?_
    exact q_J (true) hm
   ·replace hm := qC b10 hm
    refine q_vu [qf 3 b10] 4 [0, 4, 5, 15] [(23, vb (decide (a1.At ≥ 16)))] [2, 3] [] ?_
    exact q_J (decide (a1.At ≥ 16)) hm
 ·replace hm := qC b9 hm
  refine q_sk ?_
  refine q_sq ?_
  refine q_jn (ι := Bool) (fun p => FI a1 a2 a3 a4 a5 a6 a7 a8 p) (fun p => RG a1 a2 a4 p = some r) ?_ ?_
  ·rintro x14 hm
   show H _ (FI a1 a2 a3 a4 a5 a6 a7 a8 x14) _ _
   refine q_cn x14 (fun b15 => ?_) (fun b15 => ?_)
   ·replace hm := qB b15 hm
    refine s_vu [] 4 [0, 4, 5, 36] [(6, vi 8)] [2, 3] [] ?_
    obtain rfl := oi hm
    refine q_rt ?_
    exact q_rm
   ·replace hm := qC b15 hm
    refine q_sk ?_
    obtain ⟨g16, hm⟩ := qM hm
    obtain ⟨v17, h18, hm⟩ := qD hm
    refine s_du [qd 6 (Dir.none) (inb_of g16), qc 8 [45] 4 (NV (a4.getD a1.At.toNat default) v17 h18)] [0, 1, 3, 7, 0, 16, 63, 127, 255, 511, 1023, 1023, 2047, 8191] 4 [0, 4, 36] [(7, vi v17.1), (8, vi v17.2)] [2] [] ?_
    refine s_du [] [0, 1, 3, 0, 8, 24, 63, 0, 128, 384, 0, 1024, 3072, 8064, 127, 32767] 4 [5] [(9, vi (w64 (a2.X.B - a2.X.A))), (10, vi (w64 (a2.Y.B - a2.Y.A)))] [3] [] ?_
    refine q_sq ?_
    refine q_jn (ι := Bool) (fun p => FK a3 a4 a5 a6 a7 a8 p) (fun p => jR p = some r) ?_ ?_
    ·rintro x23 hm
     show H _ (FK a3 a4 a5 a6 a7 a8 x23) _ _
     refine q_cn x23 (fun b24 => ?_) (fun b24 => ?_)
     ·replace hm := qB b24 hm
      refine s_vu [] 4 [80] [(6, vi 0)] [] [] ?_
      obtain rfl := oi hm
      refine q_rt ?_
      exact q_rm
     ·replace hm := qC b24 hm
      refine q_sk ?_
      refine s_vu [] 4 [80] [(6, vi 20)] [] [] ?_
      obtain rfl := oi hm
      refine q_rt ?_
      exact q_rm
    ·rcases Bool.eq_false_or_eq_true ((w64 (a2.X.B - a2.X.A)) == v17.1) with b19 | b19
     ·replace hm := qB b19 hm
      rcases Bool.eq_false_or_eq_true ((w64 (a2.Y.B - a2.Y.A)) == v17.2) with b20 | b20
      ·replace hm := qB b20 hm
       refine q_vu [qf 3 b19, qf 8 b20] 4 [7, 8, 9, 10] [(80, vb true)] [] [] ?_
       exact q_J (true) hm
      ·replace hm := qC b20 hm
       rcases Bool.eq_false_or_eq_true ((w64 (a2.X.B - a2.X.A)) == v17.2) with b21 | b21
       ·replace hm := qB b21 hm
        refine q_vu [qf 3 b19, qf 8 b20, qf 12 b21] 4 [7, 8, 9, 10] [(80, vb ((w64 (a2.Y.B - a2.Y.A)) == v17.1))] [] [] ?_
        exact q_J ((w64 (a2.Y.B - a2.Y.A)) == v17.1) hm
       ·replace hm := qC b21 hm
        refine q_vu [qf 3 b19, qf 8 b20, qf 12 b21] 4 [7, 8, 9, 10] [(80, vb false)] [] [] ?_
        exact q_J (false) hm
     ·replace hm := qC b19 hm
      rcases Bool.eq_false_or_eq_true ((w64 (a2.X.B - a2.X.A)) == v17.2) with b22 | b22
      ·replace hm := qB b22 hm
       refine q_vu [qf 3 b19, qf 12 b22] 4 [7, 8, 9, 10] [(80, vb ((w64 (a2.Y.B - a2.Y.A)) == v17.1))] [] [] ?_
       exact q_J ((w64 (a2.Y.B - a2.Y.A)) == v17.1) hm
      ·replace hm := qC b22 hm
       refine q_vu [qf 3 b19, qf 12 b22] 4 [7, 8, 9, 10] [(80, vb false)] [] [] ?_
       exact q_J (false) hm
  ·rcases Bool.eq_false_or_eq_true (decide (a1.At < 0)) with b13 | b13
   ·replace hm := qB b13 hm
    refine q_du [qf 3 b13] [0, 1, 3, 7, 15, 31, 15, 79, 207, 463, 975, 2047, 4095] 4 [15] [(36, vb true)] [] [] ?_
    exact q_J (true) hm
   ·replace hm := qC b13 hm
    refine q_du [qf 3 b13] [0, 1, 3, 7, 15, 31, 15, 79, 207, 463, 975, 2047, 4095] 4 [15] [(36, vb (decide (a1.At ≥ ((a4.length : Nat) : Int))))] [] [] ?_
    exact q_J (decide (a1.At ≥ ((a4.length : Nat) : Int))) hm
end Saw
end Go.SL
