import Derived.Test.YtjobdnkaonbgnaaGreatEBase
import Derived.Test.YtjobdnkaonbgnaaGreatEFa1
set_option linter.unusedVariables false
set_option linter.unusedSimpArgs false
namespace Go.SL
namespace Saw
open Go.Proofs
set_option maxHeartbeats 4000000
set_option maxRecDepth 100000
def AW (r : Bool) : V := vb r
def AZ (r : Bool) : List (Nat × (Nat × O)) := []
def qAe (a1 : ByteArray) (x9 : Int) (x18 : Bool) : St :=
 ⟨[(0, vc (cs a1)), (3, vi x9), (39, vb x18)], []⟩
def LI (a1 : ByteArray) (x9 : Int) : St :=
 ⟨[(0, vc (cs a1)), (3, vi x9)], []⟩
def qAv : St :=
 ⟨[], []⟩
def qAI (a1 : ByteArray) (x7 : Bool) : St :=
 ⟨[(0, vc (cs a1)), (18, vb x7)], []⟩
theorem qFu (E : Env 0) (a1 : ByteArray) : ∀ (n : Nat) (x9 : Int) (res : Bool ⊕ Unit), wT a1 n x9 = some res → HL (kx E 40 0) (nd Tryz.f95 116) (wN 0 (fun o => qAv) (fun v st => RetQ Tryz.prog Tryz.f95 (AW v) (AZ v) .ret st) res) n (LI a1 x9) := by
 intro n
 induction n with
 | zero =>
  intro x9 res hm
  cases hm
 | succ n ih =>
  intro x9 res hm
  refine qQ ?_
  refine q_sq ?_
  refine s_vu [] 0 [] [(22, vb (decide (x9 < ((a1.size : Nat) : Int))))] [] [] ?_
  refine q_cn (decide (x9 < ((a1.size : Nat) : Int))) (fun b10 => ?_) (fun b10 => ?_)
  ·replace hm := qB b10 hm
   refine q_sk ?_
   refine q_sq ?_
   refine q_bk 1 ?_
   obtain ⟨g11, hm⟩ := qM hm
   refine s_vu [qd 2 (Dir.none) (inb_of g11)] 0 [22] [(4, vc (.val (.int .u8 (strAt a1 x9.toNat))))] [] [] ?_
   refine q_jn (ι := Bool) (fun p => qAe a1 x9 p) (fun p => PC x9 (wT a1 n) p = some res) ?_ ?_
   ·rintro x18 hm
    show H _ (qAe a1 x9 x18) _ _
    refine q_cn x18 (fun b19 => ?_) (fun b19 => ?_)
    ·replace hm := qB b19 hm
     refine s_vn [] 0 ⟨[(2, vb false)], []⟩ ?_
     obtain rfl := oi hm
     refine q_rt ?_
     refine zB false ?_
     exact q_rm
    ·replace hm := qC b19 hm
     refine q_sk ?_
     refine q_vu [] 0 [3, 39] [(3, vi (w64 (x9 + 1)))] [] [] ?_
     exact q_hl (LI a1 (w64 (x9 + 1))) (ih (w64 (x9 + 1)) _ hm)
   ·obtain ⟨v12, h13, hm⟩ := qD hm
    rcases Bool.eq_false_or_eq_true (!v12) with b14 | b14
    ·replace hm := qB b14 hm
     obtain ⟨v15, h16, hm⟩ := qD hm
     rcases Bool.eq_false_or_eq_true (!v15) with b17 | b17
     ·replace hm := qB b17 hm
      refine q_vu [qc 1 [28] 0 (TM (strAt a1 x9.toNat) v12 h13), qf 3 b14, qk 5 [31, 32] 0 ⟨[(31, vb true), (32, vc (.val (.int .u8 (strAt a1 x9.toNat))))], []⟩ (qBc (strAt a1 x9.toNat) v15 h16), qf 8 b17] 0 [4] [(39, vb ((strAt a1 x9.toNat) != 95))] [] [] ?_
      exact q_J ((strAt a1 x9.toNat) != 95) hm
     ·replace hm := qC b17 hm
      refine q_vu [qc 1 [28] 0 (TM (strAt a1 x9.toNat) v12 h13), qf 3 b14, qk 5 [31, 32] 0 ⟨[(31, vb true), (32, vc (.val (.int .u8 (strAt a1 x9.toNat))))], []⟩ (qBc (strAt a1 x9.toNat) v15 h16), qf 8 b17] 0 [4] [(39, vb false)] [] [] ?_
      exact q_J (false) hm
    ·replace hm := qC b14 hm
     refine q_vu [qc 1 [28] 0 (TM (strAt a1 x9.toNat) v12 h13), qf 3 b14] 0 [4] [(39, vb false)] [] [] ?_
     exact q_J (false) hm
  ·replace hm := qC b10 hm
   refine q_ex 0 ?_
   obtain rfl := oi hm
   exact wR () (by kernel_rfl) (by kernel_rfl)
theorem qIi (a1 : ByteArray) (r : Bool) (hm : DY a1 = some r) : CtX Tryz.prog globs 95 0 0 [.one (cs a1)] [] (AW r) (AZ r) := by
 unfold DY at hm
 refine q_E Tryz.f95 40 fun E => ?_
 refine s_vn [] 0 ⟨[(0, vc (cs a1))], []⟩ ?_
 refine q_sq ?_
 refine q_jn (ι := Bool) (fun p => qAI a1 p) (fun p => KP a1 p = some r) ?_ ?_
 ·rintro x7 hm
  show H _ (qAI a1 x7) _ _
  refine q_cn x7 (fun b8 => ?_) (fun b8 => ?_)
  ·replace hm := qB b8 hm
   refine s_vn [] 0 ⟨[(2, vb false)], []⟩ ?_
   obtain rfl := oi hm
   refine q_rt ?_
   exact q_rm
  ·replace hm := qC b8 hm
   refine q_sk ?_
   refine q_sq ?_
   refine s_vu [] 0 [18] [(3, vi 1)] [] [] ?_
   obtain ⟨u22, h21, hm⟩ := qD hm
   refine zP (nd Tryz.f95 116) 0 (by kernel_rfl) FUEL (fun o => qAv) (fun v st => RetQ Tryz.prog Tryz.f95 (AW v) (AZ v) .ret st) u22 (q_hl (LI a1 1) (qFu E a1 FUEL 1 u22 h21)) ?_ ?_
   ·rintro v23 rfl st hr
    obtain rfl := oi hm
    exact hr
   ·rintro o20 rfl
    replace hm : _ = some r := hm
    refine s_vn [] 0 ⟨[(2, vb true)], []⟩ ?_
    obtain rfl := oi hm
    refine q_rt ?_
    exact q_rm
 ·rcases Bool.eq_false_or_eq_true (decide (((a1.size : Nat) : Int) < 1)) with b2 | b2
  ·replace hm := qB b2 hm
   refine q_vu [qf 3 b2] 0 [] [(18, vb true)] [] [] ?_
   exact q_J (true) hm
  ·replace hm := qC b2 hm
   rcases Bool.eq_false_or_eq_true (decide (((a1.size : Nat) : Int) > 16)) with b3 | b3
   ·replace hm := qB b3 hm
    refine q_vu [qf 3 b2, qf 8 b3] 0 [] [(18, vb true)] [] [] ?_
    exact q_J (true) hm
   ·replace hm := qC b3 hm
    obtain ⟨g4, hm⟩ := qM hm
    obtain ⟨v5, h6, hm⟩ := qD hm
    refine q_vu [qf 3 b2, qf 8 b3, qd 10 (Dir.none) (inb_of g4), qk 11 [13, 15] 0 ⟨[(13, vb false), (15, vc (.val (.int .u8 (strAt a1 ((0 : Int).toNat)))))], []⟩ (TM (strAt a1 ((0 : Int).toNat)) v5 h6)] 0 [] [(18, vb (!v5))] [] [] ?_
    exact q_J (!v5) hm
def AR (r : Int × Bool) : V := .tup [.one (ci r.1), .one (cb r.2)]
def IA (r : Int × Bool) : List (Nat × (Nat × O)) := []
def LG (a1 : List Product) (a2 : ByteArray) (x3 : Int) : St :=
 ⟨[(1, vc (cs a2)), (8, vc (tl qA default a1)), (9, vi ((a1.length : Nat) : Int)), (10, vi x3)], []⟩
def qAF : St :=
 ⟨[], []⟩
theorem qFl (E : Env 0) (a1 : List Product) (a2 : ByteArray) : ∀ (n : Nat) (x3 : Int) (res : (Int × Bool) ⊕ Unit), QQ a1 a2 n x3 = some res → HL (kx E 21 0) (nd Tryz.f96 52) (wN 0 (fun o => qAF) (fun v st => RetQ Tryz.prog Tryz.f96 (AR v) (IA v) .ret st) res) n (LG a1 a2 x3) := by
 intro n
 induction n with
 | zero =>
  intro x3 res hm
  cases hm
 | succ n ih =>
  intro x3 res hm
  refine qQ ?_
  refine s_vu [] 0 [] [(11, vb (decide (x3 < ((a1.length : Nat) : Int))))] [] [] ?_
  refine q_sq ?_
  refine q_cn (decide (x3 < ((a1.length : Nat) : Int))) (fun b4 => ?_) (fun b4 => ?_)
  ·replace hm := qB b4 hm
   refine q_sk ?_
   refine q_sq ?_
   refine q_bk 1 ?_
   obtain ⟨g5, hm⟩ := qM hm
   refine s_vu [qd 1 (Dir.none) (inb_of g5)] 0 [11] [(6, vi x3), (7, vp 0 0)] [] [(0, bx 62 [cs ((a1.getD x3.toNat default).Name), ci ((a1.getD x3.toNat default).Thick), ci ((a1.getD x3.toNat default).Width), ci ((a1.getD x3.toNat default).Allow), ci ((a1.getD x3.toNat default).Wane), tl qO default ((a1.getD x3.toNat default).Lengths), tl qO default ((a1.getD x3.toNat default).Prices)])] ?_
   refine s_vu [] 1 [7] [(18, vb (strEq ((a1.getD x3.toNat default).Name) a2))] [0] [] ?_
   refine q_cn (strEq ((a1.getD x3.toNat default).Name) a2) (fun b6 => ?_) (fun b6 => ?_)
   ·replace hm := qB b6 hm
    refine s_vn [] 1 ⟨[(4, vi x3), (5, vb true)], []⟩ ?_
    obtain rfl := oi hm
    refine q_rt ?_
    refine zB (x3, true) ?_
    exact q_rm
   ·replace hm := qC b6 hm
    refine q_sk ?_
    refine q_vu [] 1 [6, 10, 18] [(10, vi (w64 (x3 + 1)))] [] [] ?_
    exact q_hl (LG a1 a2 (w64 (x3 + 1))) (ih (w64 (x3 + 1)) _ hm)
  ·replace hm := qC b4 hm
   refine q_ex 0 ?_
   obtain rfl := oi hm
   exact wR () (by kernel_rfl) (by kernel_rfl)
theorem qIu (a1 : List Product) (a2 : ByteArray) (r : Int × Bool) (hm : ND a1 a2 = some r) : CtX Tryz.prog globs 96 0 0 [.one (tl qA default a1), .one (cs a2)] [] (AR r) (IA r) := by
 unfold ND at hm
 refine q_E Tryz.f96 21 fun E => ?_
 refine s_vn [] 0 ⟨[(0, vc (tl qA default a1)), (1, vc (cs a2))], []⟩ ?_
 refine q_sq ?_
 refine s_vu [] 0 [0] [(8, vc (tl qA default a1)), (9, vi ((a1.length : Nat) : Int)), (10, vi 0)] [] [] ?_
 obtain ⟨u9, h8, hm⟩ := qD hm
 refine zP (nd Tryz.f96 52) 0 (by kernel_rfl) FUEL (fun o => qAF) (fun v st => RetQ Tryz.prog Tryz.f96 (AR v) (IA v) .ret st) u9 (q_hl (LG a1 a2 0) (qFl E a1 a2 FUEL 0 u9 h8)) ?_ ?_
 ·rintro v10 rfl st hr
  obtain rfl := oi hm
  exact hr
 ·rintro o7 rfl
  replace hm : _ = some r := hm
  refine s_vn [] 0 ⟨[(4, vi 0), (5, vb false)], []⟩ ?_
  obtain rfl := oi hm
  refine q_rt ?_
  exact q_rm
def qI9 (r : Int) : V := vi r
def qJZ (r : Int) : List (Nat × (Nat × O)) := []
theorem qCz (a1 : Int) (a2 : Int) (r : Int) (hm : BS a1 a2 = some r) : CtX Tryz.prog globs 134 0 0 [.one (ci a1), .one (ci a2)] [] (qI9 r) (qJZ r) := by
 unfold BS at hm
 refine q_E Tryz.f134 11 fun E => ?_
 refine s_vn [] 0 ⟨[(0, vi a1), (1, vi a2)], []⟩ ?_
 refine s_vn [qd 5 (Dir.none) (show (1000 : Int) ≠ 0 by decide)] 0 ⟨[(4, vi (w64 (Int.tdiv (w64 ((w64 (a1 * (w64 (1000 + a2)))) + 999)) 1000)))], []⟩ ?_
 obtain rfl := oi hm
 refine q_rt ?_
 exact q_rm
def qGW (r : Bool) : V := vb r
def qG1 (r : Bool) : List (Nat × (Nat × O)) := []
def AF (x3 : Bool) : St :=
 ⟨[(2, vb x3)], []⟩
theorem yQ (a1 : Int) (r : Bool) (hm : YV a1 = some r) : CtX Tryz.prog globs 133 0 0 [.one (ci a1)] [] (qGW r) (qG1 r) := by
 unfold YV at hm
 refine q_E Tryz.f133 9 fun E => ?_
 refine s_vn [] 0 ⟨[(0, vi a1)], []⟩ ?_
 refine q_jn (ι := Bool) (fun p => AF p) (fun p => PR p = some r) ?_ ?_
 ·rintro x3 hm
  show H _ (AF x3) _ _
  obtain rfl := oi hm
  refine q_rt ?_
  exact q_rm
 ·rcases Bool.eq_false_or_eq_true (decide (a1 ≥ 1)) with b2 | b2
  ·replace hm := qB b2 hm
   refine q_vn [qf 2 b2] 0 ⟨[(2, vb (decide (a1 ≤ 600)))], []⟩ ?_
   exact q_J (decide (a1 ≤ 600)) hm
  ·replace hm := qC b2 hm
   refine q_vn [qf 2 b2] 0 ⟨[(2, vb false)], []⟩ ?_
   exact q_J (false) hm
def qHF (r : Int × Int) : V := .tup [.one (ci r.1), .one (ci r.2)]
def qH8 (r : Int × Int) : List (Nat × (Nat × O)) := []
def OL (a1 : Product) (x9 : Bool) : St :=
 ⟨[(1, vp 0 0), (23, vb x9)], [(0, bx 62 (qA a1))]⟩
theorem HB (a1 : Product) (r : Int × Int) (hm : JW a1 = some r) : CtX Tryz.prog globs 99 0 0 [.agg (qA a1)] [] (qHF r) (qH8 r) := by
 unfold JW at hm
 refine q_E Tryz.f99 34 fun E => ?_
 refine s_vn [] 0 ⟨[(1, vp 0 0)], [(0, bx 62 (qA a1))]⟩ ?_
 refine q_sq ?_
 refine q_jn (ι := Bool) (fun p => OL a1 p) (fun p => WJ a1 p = some r) ?_ ?_
 ·rintro x9 hm
  show H _ (OL a1 x9) _ _
  refine q_cn x9 (fun b10 => ?_) (fun b10 => ?_)
  ·replace hm := qB b10 hm
   refine s_vn [] 1 ⟨[(2, vi 0), (3, vi 0)], []⟩ ?_
   obtain rfl := oi hm
   refine q_rt ?_
   exact q_rm
  ·replace hm := qC b10 hm
   refine q_sk ?_
   obtain ⟨v11, h12, hm⟩ := qD hm
   obtain ⟨v13, h14, hm⟩ := qD hm
   refine s_dn [qc 4 [25, 27] 1 (qCz a1.Thick a1.Allow v11 h12), qc 9 [30, 32] 1 (qCz a1.Width a1.Allow v13 h14)] [0, 1, 0, 4, 15, 0, 32, 0, 128, 511, 1023, 2047] 1 ⟨[(2, vi v11), (3, vi v13)], []⟩ ?_
   obtain rfl := oi hm
   refine q_rt ?_
   exact q_rm
 ·obtain ⟨v2, h3, hm⟩ := qD hm
  rcases Bool.eq_false_or_eq_true (!v2) with b4 | b4
  ·replace hm := qB b4 hm
   refine q_vu [qc 2 [5] 1 (yQ a1.Thick v2 h3), qf 4 b4] 1 [] [(23, vb true)] [] [] ?_
   exact q_J (true) hm
  ·replace hm := qC b4 hm
   obtain ⟨v5, h6, hm⟩ := qD hm
   rcases Bool.eq_false_or_eq_true (!v5) with b7 | b7
   ·replace hm := qB b7 hm
    refine q_vu [qc 2 [5] 1 (yQ a1.Thick v2 h3), qf 4 b4, qk 7 [8, 10] 1 ⟨[(8, vb false), (10, vi a1.Width)], []⟩ (yQ a1.Width v5 h6), qf 10 b7] 1 [] [(23, vb true)] [] [] ?_
    exact q_J (true) hm
   ·replace hm := qC b7 hm
    rcases Bool.eq_false_or_eq_true (decide (a1.Allow < 0)) with b8 | b8
    ·replace hm := qB b8 hm
     refine q_vu [qc 2 [5] 1 (yQ a1.Thick v2 h3), qf 4 b4, qk 7 [8, 10] 1 ⟨[(8, vb false), (10, vi a1.Width)], []⟩ (yQ a1.Width v5 h6), qf 10 b7, qf 15 b8] 1 [] [(23, vb true)] [] [] ?_
     exact q_J (true) hm
    ·replace hm := qC b8 hm
     refine q_vu [qc 2 [5] 1 (yQ a1.Thick v2 h3), qf 4 b4, qk 7 [8, 10] 1 ⟨[(8, vb false), (10, vi a1.Width)], []⟩ (yQ a1.Width v5 h6), qf 10 b7, qf 15 b8] 1 [] [(23, vb (decide (a1.Allow > 200)))] [] [] ?_
     exact q_J (decide (a1.Allow > 200)) hm
def yZ (r : Int) : V := vi r
def yY (r : Int) : List (Nat × (Nat × O)) := []
def GZ (a1 : Product) (x18 : Int) (x26 : Bool) : St :=
 ⟨[(1, vp 0 0), (70, vc (tl qO default a1.Lengths)), (71, vi ((a1.Lengths.length : Nat) : Int)), (72, vi x18), (94, vb x26)], [(0, bx 62 (qA a1))]⟩
def DI (a1 : Product) (x18 : Int) (x22 : Bool) : St :=
 ⟨[(1, vp 0 0), (5, vi x18), (6, vi (a1.Lengths.getD x18.toNat default)), (70, vc (tl qO default a1.Lengths)), (71, vi ((a1.Lengths.length : Nat) : Int)), (72, vi x18), (82, vb x22)], [(0, bx 62 (qA a1))]⟩
def YC (a1 : Product) (x18 : Int) : St :=
 ⟨[(1, vp 0 0), (70, vc (tl qO default a1.Lengths)), (71, vi ((a1.Lengths.length : Nat) : Int)), (72, vi x18)], [(0, bx 62 (qA a1))]⟩
def DN (a1 : Product) : St :=
 ⟨[(1, vp 0 0)], [(0, bx 62 (qA a1))]⟩
def GL (a1 : Product) (x32 : Int) (x36 : Bool) : St :=
 ⟨[(97, vc (tl qO default a1.Prices)), (98, vi ((a1.Prices.length : Nat) : Int)), (99, vi x32), (108, vb x36)], []⟩
def YE (a1 : Product) (x32 : Int) : St :=
 ⟨[(97, vc (tl qO default a1.Prices)), (98, vi ((a1.Prices.length : Nat) : Int)), (99, vi x32)], []⟩
def DG : St :=
 ⟨[], []⟩
def GJ (a1 : Product) (x10 : Bool) : St :=
 ⟨[(1, vp 0 0), (46, vb x10)], [(0, bx 62 (qA a1))]⟩
def DL (a1 : Product) (x5 : Bool) : St :=
 ⟨[(1, vp 0 0), (28, vb x5)], [(0, bx 62 (qA a1))]⟩
theorem CI (E : Env 0) (a1 : Product) : ∀ (n : Nat) (x18 : Int) (res : Int ⊕ Unit), zJ a1 n x18 = some res → HL (kx E 110 0) (nd Tryz.f97 4084) (wN 0 (fun o => DN a1) (fun v st => RetQ Tryz.prog Tryz.f97 (yZ v) (yY v) .ret st) res) n (YC a1 x18) := by
 intro n
 induction n with
 | zero =>
  intro x18 res hm
  cases hm
 | succ n ih =>
  intro x18 res hm
  refine qQ ?_
  refine s_vu [] 1 [] [(73, vb (decide (x18 < ((a1.Lengths.length : Nat) : Int))))] [] [] ?_
  refine q_sq ?_
  refine q_cn (decide (x18 < ((a1.Lengths.length : Nat) : Int))) (fun b19 => ?_) (fun b19 => ?_)
  ·replace hm := qB b19 hm
   refine q_sk ?_
   refine q_sq ?_
   refine q_bk 1 ?_
   obtain ⟨g20, hm⟩ := qM hm
   refine s_vu [qd 1 (Dir.none) (inb_of g20)] 1 [73] [(5, vi x18), (6, vi (a1.Lengths.getD x18.toNat default))] [] [] ?_
   refine q_sq ?_
   refine q_jn (ι := Bool) (fun p => DI a1 x18 p) (fun p => ZS a1 x18 (zJ a1 n) p = some res) ?_ ?_
   ·rintro x22 hm
    show H _ (DI a1 x18 x22) _ _
    refine q_cn x22 (fun b23 => ?_) (fun b23 => ?_)
    ·replace hm := qB b23 hm
     refine s_vn [] 1 ⟨[(2, vi 9)], []⟩ ?_
     obtain rfl := oi hm
     refine q_rt ?_
     refine zB 9 ?_
     exact q_rm
    ·replace hm := qC b23 hm
     refine q_sk ?_
     refine q_jn (ι := Bool) (fun p => GZ a1 x18 p) (fun p => ZU x18 (zJ a1 n) p = some res) ?_ ?_
     ·rintro x26 hm
      show H _ (GZ a1 x18 x26) _ _
      refine q_cn x26 (fun b27 => ?_) (fun b27 => ?_)
      ·replace hm := qB b27 hm
       refine s_vn [] 1 ⟨[(2, vi 11)], []⟩ ?_
       obtain rfl := oi hm
       refine q_rt ?_
       refine zB 11 ?_
       exact q_rm
      ·replace hm := qC b27 hm
       refine q_sk ?_
       refine q_vu [] 1 [72, 94] [(72, vi (w64 (x18 + 1)))] [] [] ?_
       exact q_hl (YC a1 (w64 (x18 + 1))) (ih (w64 (x18 + 1)) _ hm)
     ·rcases Bool.eq_false_or_eq_true (decide (x18 > 0)) with b24 | b24
      ·replace hm := qB b24 hm
       obtain ⟨g25, hm⟩ := qM hm
       refine q_vu [qf 2 b24, qd 8 (Dir.none) (inb_of g25)] 1 [5, 6, 82] [(94, vb (decide ((a1.Lengths.getD x18.toNat default) ≤ (a1.Lengths.getD (w64 (x18 - 1)).toNat default))))] [] [] ?_
       exact q_J (decide ((a1.Lengths.getD x18.toNat default) ≤ (a1.Lengths.getD (w64 (x18 - 1)).toNat default))) hm
      ·replace hm := qC b24 hm
       refine q_vu [qf 2 b24] 1 [5, 6, 82] [(94, vb false)] [] [] ?_
       exact q_J (false) hm
   ·rcases Bool.eq_false_or_eq_true (decide ((a1.Lengths.getD x18.toNat default) < 100)) with b21 | b21
    ·replace hm := qB b21 hm
     refine q_vu [qf 2 b21] 1 [] [(82, vb true)] [] [] ?_
     exact q_J (true) hm
    ·replace hm := qC b21 hm
     refine q_vu [qf 2 b21] 1 [] [(82, vb (decide ((a1.Lengths.getD x18.toNat default) > 20000)))] [] [] ?_
     exact q_J (decide ((a1.Lengths.getD x18.toNat default) > 20000)) hm
  ·replace hm := qC b19 hm
   refine q_ex 0 ?_
   obtain rfl := oi hm
   exact wR () (by kernel_rfl) (by kernel_rfl)
theorem OZ (E : Env 0) (a1 : Product) : ∀ (n : Nat) (x32 : Int) (res : Int ⊕ Unit), zR a1 n x32 = some res → HL (kx E 110 0) (nd Tryz.f97 8180) (wN 2 (fun o => DG) (fun v st => RetQ Tryz.prog Tryz.f97 (yZ v) (yY v) .ret st) res) n (YE a1 x32) := by
 intro n
 induction n with
 | zero =>
  intro x32 res hm
  cases hm
 | succ n ih =>
  intro x32 res hm
  refine qQ ?_
  refine s_vu [] 1 [] [(100, vb (decide (x32 < ((a1.Prices.length : Nat) : Int))))] [] [] ?_
  refine q_sq ?_
  refine q_cn (decide (x32 < ((a1.Prices.length : Nat) : Int))) (fun b33 => ?_) (fun b33 => ?_)
  ·replace hm := qB b33 hm
   refine q_sk ?_
   refine q_sq ?_
   refine q_bk 3 ?_
   obtain ⟨g34, hm⟩ := qM hm
   refine s_vu [qd 0 (Dir.none) (inb_of g34)] 1 [100] [(8, vi (a1.Prices.getD x32.toNat default))] [] [] ?_
   refine q_jn (ι := Bool) (fun p => GL a1 x32 p) (fun p => ZT x32 (zR a1 n) p = some res) ?_ ?_
   ·rintro x36 hm
    show H _ (GL a1 x32 x36) _ _
    refine q_cn x36 (fun b37 => ?_) (fun b37 => ?_)
    ·replace hm := qB b37 hm
     refine s_vn [] 1 ⟨[(2, vi 9)], []⟩ ?_
     obtain rfl := oi hm
     refine q_rt ?_
     refine zB 9 ?_
     exact q_rm
    ·replace hm := qC b37 hm
     refine q_sk ?_
     refine q_vu [] 1 [99, 108] [(99, vi (w64 (x32 + 1)))] [] [] ?_
     exact q_hl (YE a1 (w64 (x32 + 1))) (ih (w64 (x32 + 1)) _ hm)
   ·rcases Bool.eq_false_or_eq_true (decide ((a1.Prices.getD x32.toNat default) < 0)) with b35 | b35
    ·replace hm := qB b35 hm
     refine q_vu [qf 2 b35] 1 [8] [(108, vb true)] [] [] ?_
     exact q_J (true) hm
    ·replace hm := qC b35 hm
     refine q_vu [qf 2 b35] 1 [8] [(108, vb (decide ((a1.Prices.getD x32.toNat default) > 1000000)))] [] [] ?_
     exact q_J (decide ((a1.Prices.getD x32.toNat default) > 1000000)) hm
  ·replace hm := qC b33 hm
   refine q_ex 2 ?_
   obtain rfl := oi hm
   exact wR () (by kernel_rfl) (by kernel_rfl)
theorem qB3 (a1 : Product) (r : Int) (hm : ZF a1 = some r) : CtX Tryz.prog globs 97 0 0 [.agg (qA a1)] [] (yZ r) (yY r) := by
 unfold ZF at hm
 refine q_E Tryz.f97 110 fun E => ?_
 refine s_vn [] 0 ⟨[(1, vp 0 0)], [(0, bx 62 (qA a1))]⟩ ?_
 refine q_sq ?_
 refine q_jn (ι := Bool) (fun p => DL a1 p) (fun p => wW a1 p = some r) ?_ ?_
 ·rintro x5 hm
  show H _ (DL a1 x5) _ _
  refine q_cn x5 (fun b6 => ?_) (fun b6 => ?_)
  ·replace hm := qB b6 hm
   refine s_vn [] 1 ⟨[(2, vi 9)], []⟩ ?_
   obtain rfl := oi hm
   refine q_rt ?_
   exact q_rm
  ·replace hm := qC b6 hm
   refine q_sk ?_
   refine q_sq ?_
   refine q_jn (ι := Bool) (fun p => GJ a1 p) (fun p => wX a1 p = some r) ?_ ?_
   ·rintro x10 hm
    show H _ (GJ a1 x10) _ _
    refine q_cn x10 (fun b11 => ?_) (fun b11 => ?_)
    ·replace hm := qB b11 hm
     refine s_vn [] 1 ⟨[(2, vi 9)], []⟩ ?_
     obtain rfl := oi hm
     refine q_rt ?_
     exact q_rm
    ·replace hm := qC b11 hm
     refine q_sk ?_
     refine q_sq ?_
     obtain ⟨v12, h13, hm⟩ := qD hm
     refine s_vu [qc 1 [48] 1 (HB a1 v12 h13)] 1 [46] [(4, vi v12.2)] [] [] ?_
     refine s_vu [] 1 [4] [(53, vb (decide (v12.2 > 600)))] [] [] ?_
     refine q_cn (decide (v12.2 > 600)) (fun b14 => ?_) (fun b14 => ?_)
     ·replace hm := qB b14 hm
      refine s_vn [] 1 ⟨[(2, vi 9)], []⟩ ?_
      obtain rfl := oi hm
      refine q_rt ?_
      exact q_rm
     ·replace hm := qC b14 hm
      refine q_sk ?_
      refine q_sq ?_
      refine s_vu [] 1 [53] [(57, vb (((a1.Lengths.length : Nat) : Int) == 0))] [] [] ?_
      refine q_cn (((a1.Lengths.length : Nat) : Int) == 0) (fun b15 => ?_) (fun b15 => ?_)
      ·replace hm := qB b15 hm
       refine s_vn [] 1 ⟨[(2, vi 3)], []⟩ ?_
       obtain rfl := oi hm
       refine q_rt ?_
       exact q_rm
      ·replace hm := qC b15 hm
       refine q_sk ?_
       refine q_sq ?_
       refine s_vu [] 1 [57] [(61, vb (decide (((a1.Lengths.length : Nat) : Int) > 8)))] [] [] ?_
       refine q_cn (decide (((a1.Lengths.length : Nat) : Int) > 8)) (fun b16 => ?_) (fun b16 => ?_)
       ·replace hm := qB b16 hm
        refine s_vn [] 1 ⟨[(2, vi 4)], []⟩ ?_
        obtain rfl := oi hm
        refine q_rt ?_
        exact q_rm
       ·replace hm := qC b16 hm
        refine q_sk ?_
        refine q_sq ?_
        refine s_vu [] 1 [61] [(68, vb (((a1.Prices.length : Nat) : Int) != ((a1.Lengths.length : Nat) : Int)))] [] [] ?_
        refine q_cn (((a1.Prices.length : Nat) : Int) != ((a1.Lengths.length : Nat) : Int)) (fun b17 => ?_) (fun b17 => ?_)
        ·replace hm := qB b17 hm
         refine s_vn [] 1 ⟨[(2, vi 19)], []⟩ ?_
         obtain rfl := oi hm
         refine q_rt ?_
         exact q_rm
        ·replace hm := qC b17 hm
         refine q_sk ?_
         refine q_sq ?_
         refine s_vu [] 1 [68] [(70, vc (tl qO default a1.Lengths)), (71, vi ((a1.Lengths.length : Nat) : Int)), (72, vi 0)] [] [] ?_
         obtain ⟨u30, h29, hm⟩ := qD hm
         refine zP (nd Tryz.f97 4084) 0 (by kernel_rfl) FUEL (fun o => DN a1) (fun v st => RetQ Tryz.prog Tryz.f97 (yZ v) (yY v) .ret st) u30 (q_hl (YC a1 0) (CI E a1 FUEL 0 u30 h29)) ?_ ?_
         ·rintro v31 rfl st hr
          obtain rfl := oi hm
          exact hr
         ·rintro o28 rfl
          replace hm : _ = some r := hm
          refine q_sq ?_
          refine s_vn [] 1 ⟨[(97, vc (tl qO default a1.Prices)), (98, vi ((a1.Prices.length : Nat) : Int)), (99, vi 0)], []⟩ ?_
          obtain ⟨u40, h39, hm⟩ := qD hm
          refine zP (nd Tryz.f97 8180) 2 (by kernel_rfl) FUEL (fun o => DG) (fun v st => RetQ Tryz.prog Tryz.f97 (yZ v) (yY v) .ret st) u40 (q_hl (YE a1 0) (OZ E a1 FUEL 0 u40 h39)) ?_ ?_
          ·rintro v41 rfl st hr
           obtain rfl := oi hm
           exact hr
          ·rintro o38 rfl
           replace hm : _ = some r := hm
           refine s_vn [] 1 ⟨[(2, vi 0)], []⟩ ?_
           obtain rfl := oi hm
           refine q_rt ?_
           exact q_rm
   ·rcases Bool.eq_false_or_eq_true (decide (a1.Allow < 0)) with b7 | b7
    ·replace hm := qB b7 hm
     refine q_vu [qf 3 b7] 1 [28] [(46, vb true)] [] [] ?_
     exact q_J (true) hm
    ·replace hm := qC b7 hm
     rcases Bool.eq_false_or_eq_true (decide (a1.Allow > 200)) with b8 | b8
     ·replace hm := qB b8 hm
      refine q_vu [qf 3 b7, qf 8 b8] 1 [28] [(46, vb true)] [] [] ?_
      exact q_J (true) hm
     ·replace hm := qC b8 hm
      rcases Bool.eq_false_or_eq_true (decide (a1.Wane < 0)) with b9 | b9
      ·replace hm := qB b9 hm
       refine q_vu [qf 3 b7, qf 8 b8, qf 13 b9] 1 [28] [(46, vb true)] [] [] ?_
       exact q_J (true) hm
      ·replace hm := qC b9 hm
       refine q_vu [qf 3 b7, qf 8 b8, qf 13 b9] 1 [28] [(46, vb (decide (a1.Wane > 1000)))] [] [] ?_
       exact q_J (decide (a1.Wane > 1000)) hm
 ·rcases Bool.eq_false_or_eq_true (decide (a1.Thick < 5)) with b2 | b2
  ·replace hm := qB b2 hm
   refine q_vu [qf 3 b2] 1 [] [(28, vb true)] [] [] ?_
   exact q_J (true) hm
  ·replace hm := qC b2 hm
   rcases Bool.eq_false_or_eq_true (decide (a1.Thick > 300)) with b3 | b3
   ·replace hm := qB b3 hm
    refine q_vu [qf 3 b2, qf 8 b3] 1 [] [(28, vb true)] [] [] ?_
    exact q_J (true) hm
   ·replace hm := qC b3 hm
    rcases Bool.eq_false_or_eq_true (decide (a1.Width < a1.Thick)) with b4 | b4
    ·replace hm := qB b4 hm
     refine q_vu [qf 3 b2, qf 8 b3, qf 15 b4] 1 [] [(28, vb true)] [] [] ?_
     exact q_J (true) hm
    ·replace hm := qC b4 hm
     refine q_vu [qf 3 b2, qf 8 b3, qf 15 b4] 1 [] [(28, vb (decide (a1.Width > 600)))] [] [] ?_
     exact q_J (decide (a1.Width > 600)) hm
def PH (r : Int) : V := vi r
def ZD (r : Int) : List (Nat × (Nat × O)) := []
theorem qCB (r : Int) : VB (ZD r) := by
 intro i k o h
 unfold ZD at h
 cases h
def BH (a1 : List Product) (x3 : Int) : St :=
 ⟨[(0, vc (tl qA default a1)), (11, vc (tl qA default a1)), (12, vi ((a1.length : Nat) : Int)), (13, vi x3)], []⟩
def OU : St :=
 ⟨[], []⟩
theorem qEw (E : Env 0) (a1 : List Product) : ∀ (n : Nat) (x3 : Int) (res : Int ⊕ Unit), QE a1 n x3 = some res → HL (kx E 38 0) (nd Tryz.f58 116) (wN 0 (fun o => OU) (fun v st => RetQ Tryz.prog Tryz.f58 (PH v) (ZD v) .ret st) res) n (BH a1 x3) := by
 intro n
 induction n with
 | zero =>
  intro x3 res hm
  cases hm
 | succ n ih =>
  intro x3 res hm
  refine qQ ?_
  refine s_vu [] 0 [] [(14, vb (decide (x3 < ((a1.length : Nat) : Int))))] [] [] ?_
  refine q_sq ?_
  refine q_cn (decide (x3 < ((a1.length : Nat) : Int))) (fun b4 => ?_) (fun b4 => ?_)
  ·replace hm := qB b4 hm
   refine q_sk ?_
   refine q_sq ?_
   refine q_bk 1 ?_
   obtain ⟨g5, hm⟩ := qM hm
   refine s_vu [qd 1 (Dir.none) (inb_of g5)] 0 [14] [(3, vi x3), (4, vp 0 0)] [] [(0, bx 62 [cs ((a1.getD x3.toNat default).Name), ci ((a1.getD x3.toNat default).Thick), ci ((a1.getD x3.toNat default).Width), ci ((a1.getD x3.toNat default).Allow), ci ((a1.getD x3.toNat default).Wane), tl qO default ((a1.getD x3.toNat default).Lengths), tl qO default ((a1.getD x3.toNat default).Prices)])] ?_
   refine q_sq ?_
   obtain ⟨v6, h7, hm⟩ := qD hm
   refine s_vu [qc 2 [19] 1 (qIi ((a1.getD x3.toNat default).Name) v6 h7)] 1 [] [(21, vb (!v6))] [] [] ?_
   refine q_cn (!v6) (fun b8 => ?_) (fun b8 => ?_)
   ·replace hm := qB b8 hm
    refine s_vn [] 1 ⟨[(2, vi 6)], []⟩ ?_
    obtain rfl := oi hm
    refine q_rt ?_
    refine zB 6 ?_
    exact q_rm
   ·replace hm := qC b8 hm
    refine q_sk ?_
    refine q_sq ?_
    obtain ⟨g9, hm⟩ := qM hm
    obtain ⟨v10, h11, hm⟩ := qD hm
    refine s_du [qd 2 (drw ((a1.take x3.toNat).length) 0 (rf qA (a1.take x3.toNat))) (slPhi qA default a1 x3 (And.intro (slOk_of g9).2.1 (slOk_of g9).2.2)), qc 5 [25, 27] 1 (qIu (a1.take x3.toNat) ((a1.getD x3.toNat default).Name) v10 h11)] [0, 0, 3, 0, 8, 31, 63, 127, 127, 255, 1023] 1 [3, 21] [(6, vb v10.2)] [] [] ?_
    refine s_vu [] 1 [6] [(31, vb v10.2)] [] [] ?_
    refine q_cn v10.2 (fun b12 => ?_) (fun b12 => ?_)
    ·replace hm := qB b12 hm
     refine s_vn [] 1 ⟨[(2, vi 7)], []⟩ ?_
     obtain rfl := oi hm
     refine q_rt ?_
     refine zB 7 ?_
     exact q_rm
    ·replace hm := qC b12 hm
     refine q_sk ?_
     obtain ⟨v13, h14, hm⟩ := qD hm
     refine s_vu [qc 1 [32] 1 (qB3 (a1.getD x3.toNat default) v13 h14)] 1 [4, 31] [(7, vi v13)] [0] [] ?_
     refine s_vu [] 1 [] [(35, vb (v13 != 0))] [] [] ?_
     refine q_cn (v13 != 0) (fun b15 => ?_) (fun b15 => ?_)
     ·replace hm := qB b15 hm
      refine s_vn [] 1 ⟨[(2, vi v13)], []⟩ ?_
      obtain rfl := oi hm
      refine q_rt ?_
      refine zB v13 ?_
      exact q_rm
     ·replace hm := qC b15 hm
      refine q_sk ?_
      refine q_vu [] 1 [7, 13, 35] [(13, vi (w64 (x3 + 1)))] [] [] ?_
      exact q_hl (BH a1 (w64 (x3 + 1))) (ih (w64 (x3 + 1)) _ hm)
  ·replace hm := qC b4 hm
   refine q_ex 0 ?_
   obtain rfl := oi hm
   exact wR () (by kernel_rfl) (by kernel_rfl)
theorem MY (a1 : List Product) (r : Int) (hm : KL a1 = some r) : CtX Tryz.prog globs 58 0 0 [.one (tl qA default a1)] [] (PH r) (ZD r) := by
 unfold KL at hm
 refine q_E Tryz.f58 38 fun E => ?_
 refine s_vn [] 0 ⟨[(0, vc (tl qA default a1))], []⟩ ?_
 refine q_sq ?_
 refine s_vu [] 0 [] [(10, vb (decide (((a1.length : Nat) : Int) > 16)))] [] [] ?_
 refine q_cn (decide (((a1.length : Nat) : Int) > 16)) (fun b2 => ?_) (fun b2 => ?_)
 ·replace hm := qB b2 hm
  refine s_vn [] 0 ⟨[(2, vi 4)], []⟩ ?_
  obtain rfl := oi hm
  refine q_rt ?_
  exact q_rm
 ·replace hm := qC b2 hm
  refine q_sk ?_
  refine q_sq ?_
  refine s_vu [] 0 [10] [(11, vc (tl qA default a1)), (12, vi ((a1.length : Nat) : Int)), (13, vi 0)] [] [] ?_
  obtain ⟨u18, h17, hm⟩ := qD hm
  refine zP (nd Tryz.f58 116) 0 (by kernel_rfl) FUEL (fun o => OU) (fun v st => RetQ Tryz.prog Tryz.f58 (PH v) (ZD v) .ret st) u18 (q_hl (BH a1 0) (qEw E a1 FUEL 0 u18 h17)) ?_ ?_
  ·rintro v19 rfl st hr
   obtain rfl := oi hm
   exact hr
  ·rintro o16 rfl
   replace hm : _ = some r := hm
   refine s_vn [] 0 ⟨[(2, vi 0)], []⟩ ?_
   obtain rfl := oi hm
   refine q_rt ?_
   exact q_rm
def qJK (r : Bool) : V := vb r
def qIZ (r : Bool) : List (Nat × (Nat × O)) := []
def qAE (x3 : Bool) : St :=
 ⟨[(2, vb x3)], []⟩
theorem qCC (a1 : Int) (r : Bool) (hm : RP a1 = some r) : CtX Tryz.prog globs 66 0 0 [.one (ci a1)] [] (qJK r) (qIZ r) := by
 unfold RP at hm
 refine q_E Tryz.f66 9 fun E => ?_
 refine s_vn [] 0 ⟨[(0, vi a1)], []⟩ ?_
 refine q_jn (ι := Bool) (fun p => qAE p) (fun p => DB p = some r) ?_ ?_
 ·rintro x3 hm
  show H _ (qAE x3) _ _
  obtain rfl := oi hm
  refine q_rt ?_
  exact q_rm
 ·rcases Bool.eq_false_or_eq_true (decide (a1 ≥ 0)) with b2 | b2
  ·replace hm := qB b2 hm
   refine q_vn [qf 2 b2] 0 ⟨[(2, vb (decide (a1 ≤ 1000000)))], []⟩ ?_
   exact q_J (decide (a1 ≤ 1000000)) hm
  ·replace hm := qC b2 hm
   refine q_vn [qf 2 b2] 0 ⟨[(2, vb false)], []⟩ ?_
   exact q_J (false) hm
def qIT (r : Bool) : V := vb r
def qI4 (r : Bool) : List (Nat × (Nat × O)) := []
def qAq (x3 : Bool) : St :=
 ⟨[(2, vb x3)], []⟩
theorem ES (a1 : Int) (r : Bool) (hm : TE a1 = some r) : CtX Tryz.prog globs 65 0 0 [.one (ci a1)] [] (qIT r) (qI4 r) := by
 unfold TE at hm
 refine q_E Tryz.f65 9 fun E => ?_
 refine s_vn [] 0 ⟨[(0, vi a1)], []⟩ ?_
 refine q_jn (ι := Bool) (fun p => qAq p) (fun p => GS p = some r) ?_ ?_
 ·rintro x3 hm
  show H _ (qAq x3) _ _
  obtain rfl := oi hm
  refine q_rt ?_
  exact q_rm
 ·rcases Bool.eq_false_or_eq_true (decide (a1 ≥ 1)) with b2 | b2
  ·replace hm := qB b2 hm
   refine q_vn [qf 2 b2] 0 ⟨[(2, vb (decide (a1 ≤ 20000)))], []⟩ ?_
   exact q_J (decide (a1 ≤ 20000)) hm
  ·replace hm := qC b2 hm
   refine q_vn [qf 2 b2] 0 ⟨[(2, vb false)], []⟩ ?_
   exact q_J (false) hm
def qLO (r : Int) : V := vi r
def qK3 (r : Int) : List (Nat × (Nat × O)) := []
def qBE (x20 : Bool) : St :=
 ⟨[(60, vb x20)], []⟩
def qBI (a2 : Rates) (x12 : Bool) : St :=
 ⟨[(3, vp 1 0), (36, vb x12)], [(1, bx 35 (wM a2))]⟩
def qBA (a1 : Saw) (a2 : Rates) (x6 : Bool) : St :=
 ⟨[(2, vp 0 0), (3, vp 1 0), (22, vb x6)], [(0, bx 33 (zZ a1)), (1, bx 35 (wM a2))]⟩
theorem qJ9 (a1 : Saw) (a2 : Rates) (r : Int) (hm : MD a1 a2 = some r) : CtX Tryz.prog globs 59 0 0 [.agg (zZ a1), .agg (wM a2)] [] (qLO r) (qK3 r) := by
 unfold MD at hm
 refine q_E Tryz.f59 61 fun E => ?_
 refine s_vn [] 0 ⟨[(2, vp 0 0), (3, vp 1 0)], [(0, bx 33 (zZ a1)), (1, bx 35 (wM a2))]⟩ ?_
 refine q_sq ?_
 refine q_jn (ι := Bool) (fun p => qBA a1 a2 p) (fun p => YX a1 a2 p = some r) ?_ ?_
 ·rintro x6 hm
  show H _ (qBA a1 a2 x6) _ _
  refine q_cn x6 (fun b7 => ?_) (fun b7 => ?_)
  ·replace hm := qB b7 hm
   refine s_vn [] 2 ⟨[(4, vi 9)], []⟩ ?_
   obtain rfl := oi hm
   refine q_rt ?_
   exact q_rm
  ·replace hm := qC b7 hm
   refine q_sk ?_
   refine q_sq ?_
   refine q_jn (ι := Bool) (fun p => qBI a2 p) (fun p => RF a2 p = some r) ?_ ?_
   ·rintro x12 hm
    show H _ (qBI a2 x12) _ _
    refine q_cn x12 (fun b13 => ?_) (fun b13 => ?_)
    ·replace hm := qB b13 hm
     refine s_vn [] 2 ⟨[(4, vi 9)], []⟩ ?_
     obtain rfl := oi hm
     refine q_rt ?_
     exact q_rm
    ·replace hm := qC b13 hm
     refine q_sk ?_
     refine q_sq ?_
     refine q_jn (ι := Bool) (fun p => qBE p) (fun p => WH p = some r) ?_ ?_
     ·rintro x20 hm
      show H _ (qBE x20) _ _
      refine q_cn x20 (fun b21 => ?_) (fun b21 => ?_)
      ·replace hm := qB b21 hm
       refine s_vn [] 2 ⟨[(4, vi 9)], []⟩ ?_
       obtain rfl := oi hm
       refine q_rt ?_
       exact q_rm
      ·replace hm := qC b21 hm
       refine q_sk ?_
       refine s_vn [] 2 ⟨[(4, vi 0)], []⟩ ?_
       obtain rfl := oi hm
       refine q_rt ?_
       exact q_rm
     ·rcases Bool.eq_false_or_eq_true (decide (a2.Chip < 0)) with b14 | b14
      ·replace hm := qB b14 hm
       refine q_vn [qf 3 b14] 2 ⟨[(60, vb true)], []⟩ ?_
       exact q_J (true) hm
      ·replace hm := qC b14 hm
       rcases Bool.eq_false_or_eq_true (decide (a2.Chip > 1000)) with b15 | b15
       ·replace hm := qB b15 hm
        refine q_vn [qf 3 b14, qf 8 b15] 2 ⟨[(60, vb true)], []⟩ ?_
        exact q_J (true) hm
       ·replace hm := qC b15 hm
        rcases Bool.eq_false_or_eq_true (decide (a2.Dust < 0)) with b16 | b16
        ·replace hm := qB b16 hm
         refine q_vn [qf 3 b14, qf 8 b15, qf 13 b16] 2 ⟨[(60, vb true)], []⟩ ?_
         exact q_J (true) hm
        ·replace hm := qC b16 hm
         rcases Bool.eq_false_or_eq_true (decide (a2.Dust > 1000)) with b17 | b17
         ·replace hm := qB b17 hm
          refine q_vn [qf 3 b14, qf 8 b15, qf 13 b16, qf 18 b17] 2 ⟨[(60, vb true)], []⟩ ?_
          exact q_J (true) hm
         ·replace hm := qC b17 hm
          obtain ⟨v18, h19, hm⟩ := qD hm
          refine q_vn [qf 3 b14, qf 8 b15, qf 13 b16, qf 18 b17, qk 21 [55, 57] 2 ⟨[(55, vb false), (57, vi a2.Fine)], []⟩ (qCC a2.Fine v18 h19)] 2 ⟨[(60, vb (!v18))], []⟩ ?_
          exact q_J (!v18) hm
   ·rcases Bool.eq_false_or_eq_true (decide (a1.Pitch < 1)) with b8 | b8
    ·replace hm := qB b8 hm
     refine q_vu [qf 3 b8] 2 [2, 22] [(36, vb true)] [0] [] ?_
     exact q_J (true) hm
    ·replace hm := qC b8 hm
     rcases Bool.eq_false_or_eq_true (decide (a1.Pitch > 2000)) with b9 | b9
     ·replace hm := qB b9 hm
      refine q_vu [qf 3 b8, qf 8 b9] 2 [2, 22] [(36, vb true)] [0] [] ?_
      exact q_J (true) hm
     ·replace hm := qC b9 hm
      obtain ⟨v10, h11, hm⟩ := qD hm
      refine q_vu [qf 3 b8, qf 8 b9, qk 11 [31, 33] 2 ⟨[(31, vb false), (33, vi a1.Step)], []⟩ (ES a1.Step v10 h11)] 2 [2, 22] [(36, vb (!v10))] [0] [] ?_
      exact q_J (!v10) hm
 ·rcases Bool.eq_false_or_eq_true (decide (a1.Kerf < 0)) with b3 | b3
  ·replace hm := qB b3 hm
   refine q_vu [qf 3 b3] 2 [] [(22, vb true)] [] [] ?_
   exact q_J (true) hm
  ·replace hm := qC b3 hm
   rcases Bool.eq_false_or_eq_true (decide (a1.Kerf > 20)) with b4 | b4
   ·replace hm := qB b4 hm
    refine q_vu [qf 3 b3, qf 8 b4] 2 [] [(22, vb true)] [] [] ?_
    exact q_J (true) hm
   ·replace hm := qC b4 hm
    rcases Bool.eq_false_or_eq_true (decide (a1.Trim < 0)) with b5 | b5
    ·replace hm := qB b5 hm
     refine q_vu [qf 3 b3, qf 8 b4, qf 13 b5] 2 [] [(22, vb true)] [] [] ?_
     exact q_J (true) hm
    ·replace hm := qC b5 hm
     refine q_vu [qf 3 b3, qf 8 b4, qf 13 b5] 2 [] [(22, vb (decide (a1.Trim > 20)))] [] [] ?_
     exact q_J (decide (a1.Trim > 20)) hm
def FV (r : Bool) : V := vb r
def FX (r : Bool) : List (Nat × (Nat × O)) := []
def SI (a1 : Rect) (x2 : Int) (x7 : Bool) : St :=
 ⟨[(9, va (qE a1)), (10, vi x2), (27, vb x7)], []⟩
def UD (a1 : Rect) (x2 : Int) : St :=
 ⟨[(9, va (qE a1)), (10, vi x2)], []⟩
def SJ : St :=
 ⟨[], []⟩
theorem qDl (E : Env 0) (a1 : Rect) : ∀ (n : Nat) (x2 : Int) (res : Bool ⊕ Unit), zO a1 n x2 = some res → HL (kx E 29 0) (nd Tryz.f100 52) (wN 0 (fun o => SJ) (fun v st => RetQ Tryz.prog Tryz.f100 (FV v) (FX v) .ret st) res) n (UD a1 x2) := by
 intro n
 induction n with
 | zero =>
  intro x2 res hm
  cases hm
 | succ n ih =>
  intro x2 res hm
  refine qQ ?_
  refine s_vu [] 1 [] [(11, vb (decide (x2 < 2)))] [] [] ?_
  refine q_sq ?_
  refine q_cn (decide (x2 < 2)) (fun b3 => ?_) (fun b3 => ?_)
  ·replace hm := qB b3 hm
   refine q_sk ?_
   refine q_sq ?_
   refine q_bk 1 ?_
   obtain ⟨g4, hm⟩ := qM hm
   refine s_vu [qd 0 (Dir.none) (inb_of g4)] 1 [11] [(4, vp 1 0)] [] [(1, bx 26 [ci (([a1.X.A, a1.X.B, a1.Y.A, a1.Y.B] : List Int).getD (x2.toNat * 2 + 0) 0), ci (([a1.X.A, a1.X.B, a1.Y.A, a1.Y.B] : List Int).getD (x2.toNat * 2 + 1) 0)])] ?_
   refine q_jn (ι := Bool) (fun p => SI a1 x2 p) (fun p => wU x2 (zO a1 n) p = some res) ?_ ?_
   ·rintro x7 hm
    show H _ (SI a1 x2 x7) _ _
    refine q_cn x7 (fun b8 => ?_) (fun b8 => ?_)
    ·replace hm := qB b8 hm
     refine s_vn [] 2 ⟨[(2, vb false)], []⟩ ?_
     obtain rfl := oi hm
     refine q_rt ?_
     refine zB false ?_
     exact q_rm
    ·replace hm := qC b8 hm
     refine q_sk ?_
     refine q_vu [] 2 [10, 27] [(10, vi (w64 (x2 + 1)))] [] [] ?_
     exact q_hl (UD a1 (w64 (x2 + 1))) (ih (w64 (x2 + 1)) _ hm)
   ·rcases Bool.eq_false_or_eq_true (decide ((([a1.X.A, a1.X.B, a1.Y.A, a1.Y.B] : List Int).getD (x2.toNat * 2 + 0) 0) < (-600))) with b5 | b5
    ·replace hm := qB b5 hm
     refine q_vu [qf 3 b5] 2 [4] [(27, vb true)] [1] [] ?_
     exact q_J (true) hm
    ·replace hm := qC b5 hm
     rcases Bool.eq_false_or_eq_true (decide ((([a1.X.A, a1.X.B, a1.Y.A, a1.Y.B] : List Int).getD (x2.toNat * 2 + 1) 0) > 600)) with b6 | b6
     ·replace hm := qB b6 hm
      refine q_vu [qf 3 b5, qf 8 b6] 2 [4] [(27, vb true)] [1] [] ?_
      exact q_J (true) hm
     ·replace hm := qC b6 hm
      refine q_vu [qf 3 b5, qf 8 b6] 2 [4] [(27, vb (decide ((([a1.X.A, a1.X.B, a1.Y.A, a1.Y.B] : List Int).getD (x2.toNat * 2 + 0) 0) ≥ (([a1.X.A, a1.X.B, a1.Y.A, a1.Y.B] : List Int).getD (x2.toNat * 2 + 1) 0))))] [1] [] ?_
      exact q_J (decide ((([a1.X.A, a1.X.B, a1.Y.A, a1.Y.B] : List Int).getD (x2.toNat * 2 + 0) 0) ≥ (([a1.X.A, a1.X.B, a1.Y.A, a1.Y.B] : List Int).getD (x2.toNat * 2 + 1) 0))) hm
  ·replace hm := qC b3 hm
   refine q_ex 0 ?_
   obtain rfl := oi hm
   exact wR () (by kernel_rfl) (by kernel_rfl)
theorem OQ (a1 : Rect) (r : Bool) (hm : JI a1 = some r) : CtX Tryz.prog globs 100 0 0 [.agg (qE a1)] [] (FV r) (FX r) := by
 unfold JI at hm
 refine q_E Tryz.f100 29 fun E => ?_
 refine s_vn [] 0 ⟨[(1, vp 0 0)], [(0, bx 28 (qE a1))]⟩ ?_
 refine q_sq ?_
 refine s_vn [] 1 ⟨[(9, va (qE a1)), (10, vi 0)], []⟩ ?_
 obtain ⟨u11, h10, hm⟩ := qD hm
 refine zP (nd Tryz.f100 52) 0 (by kernel_rfl) FUEL (fun o => SJ) (fun v st => RetQ Tryz.prog Tryz.f100 (FV v) (FX v) .ret st) u11 (q_hl (UD a1 0) (qDl E a1 FUEL 0 u11 h10)) ?_ ?_
 ·rintro v12 rfl st hr
  obtain rfl := oi hm
  exact hr
 ·rintro o9 rfl
  replace hm : _ = some r := hm
  refine s_vn [] 1 ⟨[(2, vb true)], []⟩ ?_
  obtain rfl := oi hm
  refine q_rt ?_
  exact q_rm
def qGA (r : Pattern × Int) : V := vc (.fn 102 [.bptr 0 0 0, .bptr 1 0 0])
def qGX (r : Pattern × Int) : List (Nat × (Nat × O)) := [(0, bx 31 (qF r.1)), (1, bx 3 [ci r.2])]
theorem PU (a1 : Pattern) (a2 : Int) (r : Pattern × Int) (hm : jK a1 a2 = some r) : CtX Tryz.prog globs 63 0 0 [.agg (qF a1), .one (ci a2)] [] (qGA r) (qGX r) := by
 unfold jK at hm
 refine q_E Tryz.f63 6 fun E => ?_
 refine s_vn [] 0 ⟨[(2, vp 0 0), (3, vp 1 0)], [(0, bx 31 (qF a1)), (1, bx 3 [ci a2])]⟩ ?_
 refine s_vu [] 2 [2, 3] [(4, vc (.fn 102 [.bptr 0 0 0, .bptr 1 0 0]))] [] [] ?_
 obtain rfl := oi hm
 refine q_rt ?_
 exact q_rm
def qIa (r : Bool) : V := vb r
def qIs (r : Bool) : List (Nat × (Nat × O)) := []
def OV (x3 : Bool) : St :=
 ⟨[(2, vb x3)], []⟩
theorem WC (a1 : Int) (r : Bool) (hm : jE a1 = some r) : CtX Tryz.prog globs 81 0 0 [.one (ci a1)] [] (qIa r) (qIs r) := by
 unfold jE at hm
 refine q_E Tryz.f81 9 fun E => ?_
 refine s_vn [] 0 ⟨[(0, vi a1)], []⟩ ?_
 refine q_jn (ι := Bool) (fun p => OV p) (fun p => UI p = some r) ?_ ?_
 ·rintro x3 hm
  show H _ (OV x3) _ _
  obtain rfl := oi hm
  refine q_rt ?_
  exact q_rm
 ·rcases Bool.eq_false_or_eq_true (a1 == 2) with b2 | b2
  ·replace hm := qB b2 hm
   refine q_vn [qf 2 b2] 0 ⟨[(2, vb true)], []⟩ ?_
   exact q_J (true) hm
  ·replace hm := qC b2 hm
   refine q_vn [qf 2 b2] 0 ⟨[(2, vb (a1 == 3))], []⟩ ?_
   exact q_J (a1 == 3) hm
def qIp (r : Span) : V := va (e_Span r)
def qHz (r : Span) : List (Nat × (Nat × O)) := []
theorem qA9 (a1 : Rect) (a2 : Int) (r : Span) (hm : KF a1 a2 = some r) : CtX Tryz.prog globs 120 0 0 [.agg (qE a1), .one (ci a2)] [] (qIp r) (qHz r) := by
 unfold KF at hm
 refine q_E Tryz.f120 11 fun E => ?_
 refine s_vn [] 0 ⟨[(1, vi a2), (2, vp 0 0), (4, vp 1 0)], [(0, bx 28 (qE a1)), (1, bx 26 [ci 0, ci 0])]⟩ ?_
 refine q_sq ?_
 refine s_vu [] 2 [1] [(6, vb (a2 == 2))] [] [] ?_
 refine q_cn (a2 == 2) (fun b3 => ?_) (fun b3 => ?_)
 ·replace hm := qB b3 hm
  refine s_vn [] 2 ⟨[(4, vp 1 0)], [(1, bx 26 (e_Span a1.X))]⟩ ?_
  obtain rfl := oi hm
  refine q_rt ?_
  exact q_rm
 ·replace hm := qC b3 hm
  refine q_sk ?_
  refine s_vn [] 2 ⟨[(4, vp 1 0)], [(1, bx 26 (e_Span a1.Y))]⟩ ?_
  obtain rfl := oi hm
  refine q_rt ?_
  exact q_rm
def qEt (r : Int) : V := vi r
def qEs (r : Int) : List (Nat × (Nat × O)) := []
def LN : St :=
 ⟨[], []⟩
def MC (x15 : Bool) : St :=
 ⟨[(46, vb x15)], []⟩
def LZ (a1 : Node) (a2 : Pattern_place) (x6 : Bool) : St :=
 ⟨[(2, vp 0 0), (3, vp 1 0), (23, vb x6)], [(0, bx 65 (qJ a1)), (1, bx 123 (e_Pattern_place a2))]⟩
theorem EU (a1 : Node) (a2 : Pattern_place) (r : Int) (hm : ZK a1 a2 = some r) : CtX Tryz.prog globs 101 0 0 [.agg (qJ a1), .agg (e_Pattern_place a2)] [] (qEt r) (qEs r) := by
 unfold ZK at hm
 refine q_E Tryz.f101 47 fun E => ?_
 refine s_vn [] 0 ⟨[(2, vp 0 0), (3, vp 1 0)], [(0, bx 65 (qJ a1)), (1, bx 123 (e_Pattern_place a2))]⟩ ?_
 refine q_sq ?_
 refine q_jn (ι := Bool) (fun p => LZ a1 a2 p) (fun p => wY a1 a2 p = some r) ?_ ?_
 ·rintro x6 hm
  show H _ (LZ a1 a2 x6) _ _
  refine q_cn x6 (fun b7 => ?_) (fun b7 => ?_)
  ·replace hm := qB b7 hm
   refine s_vn [] 2 ⟨[(4, vi 10)], []⟩ ?_
   obtain rfl := oi hm
   refine q_rt ?_
   exact q_rm
  ·replace hm := qC b7 hm
   refine q_sk ?_
   refine q_sq ?_
   refine s_vu [] 2 [23] [(26, vb (decide (a2.level > 64)))] [] [] ?_
   refine q_cn (decide (a2.level > 64)) (fun b8 => ?_) (fun b8 => ?_)
   ·replace hm := qB b8 hm
    refine s_vn [] 2 ⟨[(4, vi 28)], []⟩ ?_
    obtain rfl := oi hm
    refine q_rt ?_
    exact q_rm
   ·replace hm := qC b8 hm
    refine q_sk ?_
    refine q_jn (ι := Unit) (fun p => LN) (fun p => QX = some r) ?_ ?_
    ·rintro _ hm
     show H _ (LN) _ _
     refine s_vn [] 3 ⟨[(4, vi 0)], []⟩ ?_
     obtain rfl := oi hm
     refine q_rt ?_
     exact q_rm
    ·obtain ⟨v9, h10, hm⟩ := qD hm
     refine s_vu [qc 2 [28] 2 (WC a1.Kind v9 h10)] 2 [26] [(29, vb v9)] [] [] ?_
     refine q_cn v9 (fun b11 => ?_) (fun b11 => ?_)
     ·replace hm := qB b11 hm
      obtain ⟨v12, h13, hm⟩ := qD hm
      refine s_vu [qc 4 [31, 33] 2 (qA9 a2.rect a1.Kind v12 h13)] 2 [3, 29] [(5, vp 2 0)] [1] [(2, bx 26 (e_Span v12))] ?_
      refine q_jn (ι := Bool) (fun p => MC p) (fun p => YF p = some r) ?_ ?_
      ·rintro x15 hm
       show H _ (MC x15) _ _
       refine q_cn x15 (fun b16 => ?_) (fun b16 => ?_)
       ·replace hm := qB b16 hm
        refine s_vn [] 3 ⟨[(4, vi 20)], []⟩ ?_
        obtain rfl := oi hm
        refine q_rt ?_
        exact q_rm
       ·replace hm := qC b16 hm
        refine q_sk ?_
        exact q_J () hm
      ·rcases Bool.eq_false_or_eq_true (decide (a1.At ≤ v12.A)) with b14 | b14
       ·replace hm := qB b14 hm
        refine q_vn [qf 5 b14] 3 ⟨[(46, vb true)], []⟩ ?_
        exact q_J (true) hm
       ·replace hm := qC b14 hm
        refine q_vn [qf 5 b14] 3 ⟨[(46, vb (decide (a1.At ≥ v12.B)))], []⟩ ?_
        exact q_J (decide (a1.At ≥ v12.B)) hm
     ·replace hm := qC b11 hm
      refine q_sk ?_
      exact q_J () hm
 ·rcases Bool.eq_false_or_eq_true (decide (a1.Kind < 0)) with b3 | b3
  ·replace hm := qB b3 hm
   refine q_vu [qf 3 b3] 2 [] [(23, vb true)] [] [] ?_
   exact q_J (true) hm
  ·replace hm := qC b3 hm
   rcases Bool.eq_false_or_eq_true (decide (a1.Kind > 3)) with b4 | b4
   ·replace hm := qB b4 hm
    refine q_vu [qf 3 b3, qf 8 b4] 2 [] [(23, vb true)] [] [] ?_
    exact q_J (true) hm
   ·replace hm := qC b4 hm
    rcases Bool.eq_false_or_eq_true (a1.Kind == 0) with b5 | b5
    ·replace hm := qB b5 hm
     refine q_vu [qf 3 b3, qf 8 b4, qf 12 b5] 2 [] [(23, vb (a1.At != 0))] [] [] ?_
     exact q_J (a1.At != 0) hm
    ·replace hm := qC b5 hm
     refine q_vu [qf 3 b3, qf 8 b4, qf 12 b5] 2 [] [(23, vb false)] [] [] ?_
     exact q_J (false) hm
def qAg (a1 : Rect) (a2 : Int) (a3 : List Product) (r : Int) : V := vi r
def pattern_Check_1_o (a1 : Rect) (a2 : Int) (a3 : List Product) (r : Int) : List (Nat × (Nat × O)) := [(0, bx 24 [tl qA default a3])]
def EE (a3 : List Product) (x18 : Bool) : St :=
 ⟨[(49, vb x18)], [(0, bx 24 [tl qA default a3])]⟩
def SY (a1 : Rect) (a2 : Int) (a3 : List Product) (x5 : Bool) : St :=
 ⟨[(1, vi a2), (2, vp 0 0), (3, vp 1 0), (17, vb x5)], [(0, bx 24 [tl qA default a3]), (1, bx 28 (qE a1))]⟩
theorem qFb (a1 : Rect) (a2 : Int) (a3 : List Product) (r : Int) (hm : KN a1 a2 a3 = some r) : CtX Tryz.prog globs 98 1 1 [.agg (qE a1), .one (ci a2), .one (.bptr 0 0 0)] [(0, bx 24 [tl qA default a3])] (qAg a1 a2 a3 r) (pattern_Check_1_o a1 a2 a3 r) := by
 unfold KN at hm
 refine q_E Tryz.f98 50 fun E => ?_
 refine s_vn [] 1 ⟨[(1, vi a2), (2, vp 0 0), (3, vp 1 0)], [(0, bx 24 [tl qA default a3]), (1, bx 28 (qE a1))]⟩ ?_
 refine q_sq ?_
 refine q_jn (ι := Bool) (fun p => SY a1 a2 a3 p) (fun p => QF a1 a2 a3 p = some r) ?_ ?_
 ·rintro x5 hm
  show H _ (SY a1 a2 a3 x5) _ _
  refine q_cn x5 (fun b6 => ?_) (fun b6 => ?_)
  ·replace hm := qB b6 hm
   refine s_vu [] 2 [1, 2, 3, 17] [(5, vi 8)] [1] [] ?_
   obtain rfl := oi hm
   refine q_rt ?_
   exact q_rm
  ·replace hm := qC b6 hm
   refine q_sk ?_
   obtain ⟨g7, hm⟩ := qM hm
   obtain ⟨v8, h9, hm⟩ := qD hm
   refine s_vu [qd 2 (Dir.none) (inb_of g7), qc 4 [22] 2 (HB (a3.getD a2.toNat default) v8 h9)] 2 [1, 2, 17] [(6, vi v8.1), (7, vi v8.2)] [] [] ?_
   obtain ⟨v10, h11, hm⟩ := qD hm
   obtain ⟨v12, h13, hm⟩ := qD hm
   refine s_du [qc 2 [27] 2 (VX a1.X v10 h11), qc 5 [30] 2 (VX a1.Y v12 h13)] [0, 1, 3, 0, 8, 31, 63, 127] 2 [3] [(8, vi v10), (9, vi v12)] [1] [] ?_
   refine q_sq ?_
   refine q_jn (ι := Bool) (fun p => EE a3 p) (fun p => jU p = some r) ?_ ?_
   ·rintro x18 hm
    show H _ (EE a3 x18) _ _
    refine q_cn x18 (fun b19 => ?_) (fun b19 => ?_)
    ·replace hm := qB b19 hm
     refine s_vu [] 2 [49] [(5, vi 20)] [] [] ?_
     obtain rfl := oi hm
     refine q_rt ?_
     exact q_rm
    ·replace hm := qC b19 hm
     refine q_sk ?_
     refine s_vu [] 2 [49] [(5, vi 0)] [] [] ?_
     obtain rfl := oi hm
     refine q_rt ?_
     exact q_rm
   ·rcases Bool.eq_false_or_eq_true (v10 != v8.1) with b14 | b14
    ·replace hm := qB b14 hm
     rcases Bool.eq_false_or_eq_true (v10 != v8.2) with b15 | b15
     ·replace hm := qB b15 hm
      refine q_vu [qf 3 b14, qf 12 b15] 2 [6, 7, 8, 9] [(49, vb true)] [] [] ?_
      exact q_J (true) hm
     ·replace hm := qC b15 hm
      refine q_vu [qf 3 b14, qf 12 b15] 2 [6, 7, 8, 9] [(49, vb (v12 != v8.1))] [] [] ?_
      exact q_J (v12 != v8.1) hm
    ·replace hm := qC b14 hm
     rcases Bool.eq_false_or_eq_true (v12 != v8.2) with b16 | b16
     ·replace hm := qB b16 hm
      rcases Bool.eq_false_or_eq_true (v10 != v8.2) with b17 | b17
      ·replace hm := qB b17 hm
       refine q_vu [qf 3 b14, qf 8 b16, qf 12 b17] 2 [6, 7, 8, 9] [(49, vb true)] [] [] ?_
       exact q_J (true) hm
      ·replace hm := qC b17 hm
       refine q_vu [qf 3 b14, qf 8 b16, qf 12 b17] 2 [6, 7, 8, 9] [(49, vb (v12 != v8.1))] [] [] ?_
       exact q_J (v12 != v8.1) hm
     ·replace hm := qC b16 hm
      refine q_vu [qf 3 b14, qf 8 b16] 2 [6, 7, 8, 9] [(49, vb false)] [] [] ?_
      exact q_J (false) hm
 ·rcases Bool.eq_false_or_eq_true (decide (a2 < 0)) with b4 | b4
  ·replace hm := qB b4 hm
   refine q_vu [qf 2 b4] 2 [] [(17, vb true)] [] [] ?_
   exact q_J (true) hm
  ·replace hm := qC b4 hm
   refine q_vu [qf 2 b4] 2 [] [(17, vb (decide (a2 ≥ ((a3.length : Nat) : Int))))] [] [] ?_
   exact q_J (decide (a2 ≥ ((a3.length : Nat) : Int))) hm
end Saw
end Go.SL
