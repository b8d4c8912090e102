import Derived.Test.YtjobdnkaonbgnaaGreatEBase
import Derived.Test.YtjobdnkaonbgnaaGreatEFa1
set_option linter.unusedVariables false
set_option linter.unusedSimpArgs false
namespace Go.SL
namespace Saw
open Go.Proofs
set_option maxHeartbeats 4000000
set_option maxRecDepth 100000
def AU (r : Bool) : V := vb r
def AY (r : Bool) : List (Nat × (Nat × O)) := []
def qAs (a1 : ByteArray) (x9 : Int) (x18 : Bool) : St :=
 ⟨[(0, vc (cs a1)), (3, vi x9), (39, vb x18)], []⟩
def FF (a1 : ByteArray) (x9 : Int) : St :=
 ⟨[(0, vc (cs a1)), (3, vi x9)], []⟩
def CU : St :=
 ⟨[], []⟩
def qAm (a1 : ByteArray) (x7 : Bool) : St :=
 ⟨[(0, vc (cs a1)), (18, vb x7)], []⟩
theorem qE5 (E : Env 0) (a1 : ByteArray) : ∀ (n : Nat) (x9 : Int) (res : Bool ⊕ Unit), wM a1 n x9 = some res → HL (kx E 40 0) (nd Tryz.f95 116) (wI 0 (fun o => CU) (fun v st => RetQ Tryz.prog Tryz.f95 (AU v) (AY v) .ret st) res) n (FF a1 x9) := by
 intro n
 induction n with
 | zero =>
  intro x9 res hm
  cases hm
 | succ n ih =>
  intro x9 res hm
  refine qR ?_
  refine q_sq ?_
  refine q_sq ?_
  refine q_vu [] 0 [] [(22, vb (decide (x9 < ((a1.size : Nat) : Int))))] [] [] ?_
  refine q_cn (decide (x9 < ((a1.size : Nat) : Int))) (fun b10 => ?_) (fun b10 => ?_)
  ·replace hm := qC b10 hm
   refine q_sk ?_
   refine q_sq ?_
   refine q_bk 1 ?_
   refine q_sq ?_
   obtain ⟨g11, hm⟩ := qL hm
   refine q_vu [qd 2 (Dir.none) (inb_of g11)] 0 [22] [(4, vc (.val (.int .u8 (strAt a1 x9.toNat))))] [] [] ?_
   refine q_jn (ι := Bool) (fun p => qAs a1 x9 p) (fun p => KM x9 (wM a1 n) p = some res) ?_ ?_
   ·rintro x18 hm
    show H _ (qAs a1 x9 x18) _ _
    refine q_cn x18 (fun b19 => ?_) (fun b19 => ?_)
    ·replace hm := qC b19 hm
     refine q_sq ?_
     refine q_vn [] 0 ⟨[(2, vb false)], []⟩ ?_
     obtain rfl := Option.some.inj hm
     refine q_rt ?_
     refine qY false ?_
     exact q_rm
    ·replace hm := qB b19 hm
     refine q_sk ?_
     refine q_vu [] 0 [3, 39] [(3, vi (w64 (x9 + 1)))] [] [] ?_
     exact q_hl (FF a1 (w64 (x9 + 1))) (ih (w64 (x9 + 1)) _ hm)
   ·obtain ⟨v12, h13, hm⟩ := qD hm
    rcases Bool.eq_false_or_eq_true (!v12) with b14 | b14
    ·replace hm := qC b14 hm
     obtain ⟨v15, h16, hm⟩ := qD hm
     rcases Bool.eq_false_or_eq_true (!v15) with b17 | b17
     ·replace hm := qC b17 hm
      refine q_vu [qc 1 [28] 0 (TX (strAt a1 x9.toNat) v12 h13), qf 3 b14, qk 5 [31, 32] 0 ⟨[(31, vb true), (32, vc (.val (.int .u8 (strAt a1 x9.toNat))))], []⟩ (qA3 (strAt a1 x9.toNat) v15 h16), qf 8 b17] 0 [4] [(39, vb ((strAt a1 x9.toNat) != 95))] [] [] ?_
      exact q_J ((strAt a1 x9.toNat) != 95) hm
     ·replace hm := qB b17 hm
      refine q_vu [qc 1 [28] 0 (TX (strAt a1 x9.toNat) v12 h13), qf 3 b14, qk 5 [31, 32] 0 ⟨[(31, vb true), (32, vc (.val (.int .u8 (strAt a1 x9.toNat))))], []⟩ (qA3 (strAt a1 x9.toNat) v15 h16), qf 8 b17] 0 [4] [(39, vb false)] [] [] ?_
      exact q_J (false) hm
    ·replace hm := qB b14 hm
     refine q_vu [qc 1 [28] 0 (TX (strAt a1 x9.toNat) v12 h13), qf 3 b14] 0 [4] [(39, vb false)] [] [] ?_
     exact q_J (false) hm
  ·replace hm := qB b10 hm
   refine q_ex 0 ?_
   obtain rfl := Option.some.inj hm
   exact wJ () (by kernel_rfl) (by kernel_rfl)
theorem qHu (a1 : ByteArray) (r : Bool) (hm : DA a1 = some r) : CtX Tryz.prog globs 95 0 0 [.one (cs a1)] [] (AU r) (AY r) := by
 unfold DA at hm
 refine q_E Tryz.f95 40 fun E => ?_
 refine q_sq ?_
 refine q_vn [] 0 ⟨[(0, vc (cs a1))], []⟩ ?_
 refine q_sq ?_
 refine q_jn (ι := Bool) (fun p => qAm a1 p) (fun p => KY a1 p = some r) ?_ ?_
 ·rintro x7 hm
  show H _ (qAm a1 x7) _ _
  refine q_cn x7 (fun b8 => ?_) (fun b8 => ?_)
  ·replace hm := qC b8 hm
   refine q_sq ?_
   refine q_vn [] 0 ⟨[(2, vb false)], []⟩ ?_
   obtain rfl := Option.some.inj hm
   refine q_rt ?_
   exact q_rm
  ·replace hm := qB b8 hm
   refine q_sk ?_
   refine q_sq ?_
   refine q_sq ?_
   refine q_vu [] 0 [18] [(3, vi 1)] [] [] ?_
   obtain ⟨u22, h21, hm⟩ := qD hm
   refine zM (nd Tryz.f95 116) 0 (by kernel_rfl) FUEL (fun o => CU) (fun v st => RetQ Tryz.prog Tryz.f95 (AU v) (AY v) .ret st) u22 (q_hl (FF a1 1) (qE5 E a1 FUEL 1 u22 h21)) ?_ ?_
   ·rintro v23 rfl st hr
    obtain rfl := Option.some.inj hm
    exact hr
   ·rintro o20 rfl
    replace hm : _ = some r := hm
    refine q_sq ?_
    refine q_vn [] 0 ⟨[(2, vb true)], []⟩ ?_
    obtain rfl := Option.some.inj hm
    refine q_rt ?_
    exact q_rm
 ·rcases Bool.eq_false_or_eq_true (decide (((a1.size : Nat) : Int) < 1)) with b2 | b2
  ·replace hm := qC b2 hm
   refine q_vu [qf 3 b2] 0 [] [(18, vb true)] [] [] ?_
   exact q_J (true) hm
  ·replace hm := qB b2 hm
   rcases Bool.eq_false_or_eq_true (decide (((a1.size : Nat) : Int) > 16)) with b3 | b3
   ·replace hm := qC b3 hm
    refine q_vu [qf 3 b2, qf 8 b3] 0 [] [(18, vb true)] [] [] ?_
    exact q_J (true) hm
   ·replace hm := qB b3 hm
    obtain ⟨g4, hm⟩ := qL hm
    obtain ⟨v5, h6, hm⟩ := qD hm
    refine q_vu [qf 3 b2, qf 8 b3, qd 10 (Dir.none) (inb_of g4), qk 11 [13, 15] 0 ⟨[(13, vb false), (15, vc (.val (.int .u8 (strAt a1 ((0 : Int).toNat)))))], []⟩ (TX (strAt a1 ((0 : Int).toNat)) v5 h6)] 0 [] [(18, vb (!v5))] [] [] ?_
    exact q_J (!v5) hm
def AQ (r : Int × Bool) : V := .tup [.one (ci r.1), .one (cb r.2)]
def AS (r : Int × Bool) : List (Nat × (Nat × O)) := []
def FC (a1 : List Product) (a2 : ByteArray) (x3 : Int) : St :=
 ⟨[(1, vc (cs a2)), (8, vc (tl qA default a1)), (9, vi ((a1.length : Nat) : Int)), (10, vi x3)], []⟩
def qAh : St :=
 ⟨[], []⟩
theorem qEJ (E : Env 0) (a1 : List Product) (a2 : ByteArray) : ∀ (n : Nat) (x3 : Int) (res : (Int × Bool) ⊕ Unit), QX a1 a2 n x3 = some res → HL (kx E 21 0) (nd Tryz.f96 52) (wI 0 (fun o => qAh) (fun v st => RetQ Tryz.prog Tryz.f96 (AQ v) (AS v) .ret st) res) n (FC a1 a2 x3) := by
 intro n
 induction n with
 | zero =>
  intro x3 res hm
  cases hm
 | succ n ih =>
  intro x3 res hm
  refine qR ?_
  refine q_sq ?_
  refine q_vu [] 0 [] [(11, vb (decide (x3 < ((a1.length : Nat) : Int))))] [] [] ?_
  refine q_sq ?_
  refine q_cn (decide (x3 < ((a1.length : Nat) : Int))) (fun b4 => ?_) (fun b4 => ?_)
  ·replace hm := qC b4 hm
   refine q_sk ?_
   refine q_sq ?_
   refine q_bk 1 ?_
   refine q_sq ?_
   obtain ⟨g5, hm⟩ := qL hm
   refine q_vu [qd 1 (Dir.none) (inb_of g5)] 0 [11] [(6, vi x3), (7, vp 0 0)] [] [(0, bx 62 [cs ((a1.getD x3.toNat default).Name), ci ((a1.getD x3.toNat default).Thick), ci ((a1.getD x3.toNat default).Width), ci ((a1.getD x3.toNat default).Allow), ci ((a1.getD x3.toNat default).Wane), tl qN default ((a1.getD x3.toNat default).Lengths), tl qN default ((a1.getD x3.toNat default).Prices)])] ?_
   refine q_sq ?_
   refine q_vu [] 1 [7] [(18, vb (strEq ((a1.getD x3.toNat default).Name) a2))] [0] [] ?_
   refine q_cn (strEq ((a1.getD x3.toNat default).Name) a2) (fun b6 => ?_) (fun b6 => ?_)
   ·replace hm := qC b6 hm
    refine q_sq ?_
    refine q_vn [] 1 ⟨[(4, vi x3), (5, vb true)], []⟩ ?_
    obtain rfl := Option.some.inj hm
    refine q_rt ?_
    refine qY (x3, true) ?_
    exact q_rm
   ·replace hm := qB b6 hm
    refine q_sk ?_
    refine q_vu [] 1 [6, 10, 18] [(10, vi (w64 (x3 + 1)))] [] [] ?_
    exact q_hl (FC a1 a2 (w64 (x3 + 1))) (ih (w64 (x3 + 1)) _ hm)
  ·replace hm := qB b4 hm
   refine q_ex 0 ?_
   obtain rfl := Option.some.inj hm
   exact wJ () (by kernel_rfl) (by kernel_rfl)
theorem qHt (a1 : List Product) (a2 : ByteArray) (r : Int × Bool) (hm : BH a1 a2 = some r) : CtX Tryz.prog globs 96 0 0 [.one (tl qA default a1), .one (cs a2)] [] (AQ r) (AS r) := by
 unfold BH at hm
 refine q_E Tryz.f96 21 fun E => ?_
 refine q_sq ?_
 refine q_vn [] 0 ⟨[(0, vc (tl qA default a1)), (1, vc (cs a2))], []⟩ ?_
 refine q_sq ?_
 refine q_sq ?_
 refine q_vu [] 0 [0] [(8, vc (tl qA default a1)), (9, vi ((a1.length : Nat) : Int)), (10, vi 0)] [] [] ?_
 obtain ⟨u9, h8, hm⟩ := qD hm
 refine zM (nd Tryz.f96 52) 0 (by kernel_rfl) FUEL (fun o => qAh) (fun v st => RetQ Tryz.prog Tryz.f96 (AQ v) (AS v) .ret st) u9 (q_hl (FC a1 a2 0) (qEJ E a1 a2 FUEL 0 u9 h8)) ?_ ?_
 ·rintro v10 rfl st hr
  obtain rfl := Option.some.inj hm
  exact hr
 ·rintro o7 rfl
  replace hm : _ = some r := hm
  refine q_sq ?_
  refine q_vn [] 0 ⟨[(4, vi 0), (5, vb false)], []⟩ ?_
  obtain rfl := Option.some.inj hm
  refine q_rt ?_
  exact q_rm
set_option maxRecDepth 100000
def qIj (r : Int) : V := vi r
def qIw (r : Int) : List (Nat × (Nat × O)) := []
theorem qBQ (a1 : Int) (a2 : Int) (r : Int) (hm : BC a1 a2 = some r) : CtX Tryz.prog globs 134 0 0 [.one (ci a1), .one (ci a2)] [] (qIj r) (qIw r) := by
 unfold BC at hm
 refine q_E Tryz.f134 11 fun E => ?_
 refine q_sq ?_
 refine q_vn [] 0 ⟨[(0, vi a1), (1, vi a2)], []⟩ ?_
 refine q_sq ?_
 refine q_vn [qd 5 (Dir.none) (show (1000 : Int) ≠ 0 by decide)] 0 ⟨[(4, vi (w64 (Int.tdiv (w64 ((w64 (a1 * (w64 (1000 + a2)))) + 999)) 1000)))], []⟩ ?_
 obtain rfl := Option.some.inj hm
 refine q_rt ?_
 exact q_rm
open Go.Proofs
set_option maxHeartbeats 4000000
set_option maxRecDepth 100000
def qGn (r : Bool) : V := vb r
def qGM (r : Bool) : List (Nat × (Nat × O)) := []
def EQ (x3 : Bool) : St :=
 ⟨[(2, vb x3)], []⟩
theorem yJ (a1 : Int) (r : Bool) (hm : JZ a1 = some r) : CtX Tryz.prog globs 133 0 0 [.one (ci a1)] [] (qGn r) (qGM r) := by
 unfold JZ at hm
 refine q_E Tryz.f133 9 fun E => ?_
 refine q_sq ?_
 refine q_vn [] 0 ⟨[(0, vi a1)], []⟩ ?_
 refine q_jn (ι := Bool) (fun p => EQ p) (fun p => PE p = some r) ?_ ?_
 ·rintro x3 hm
  show H _ (EQ x3) _ _
  obtain rfl := Option.some.inj hm
  refine q_rt ?_
  exact q_rm
 ·rcases Bool.eq_false_or_eq_true (decide (a1 ≥ 1)) with b2 | b2
  ·replace hm := qC b2 hm
   refine q_vn [qf 2 b2] 0 ⟨[(2, vb (decide (a1 ≤ 600)))], []⟩ ?_
   exact q_J (decide (a1 ≤ 600)) hm
  ·replace hm := qB b2 hm
   refine q_vn [qf 2 b2] 0 ⟨[(2, vb false)], []⟩ ?_
   exact q_J (false) hm
def qG5 (r : Int × Int) : V := .tup [.one (ci r.1), .one (ci r.2)]
def qH9 (r : Int × Int) : List (Nat × (Nat × O)) := []
def IL (a1 : Product) (x9 : Bool) : St :=
 ⟨[(1, vp 0 0), (23, vb x9)], [(0, bx 62 (qA a1))]⟩
theorem MU (a1 : Product) (r : Int × Int) (hm : JF a1 = some r) : CtX Tryz.prog globs 99 0 0 [.agg (qA a1)] [] (qG5 r) (qH9 r) := by
 unfold JF at hm
 refine q_E Tryz.f99 34 fun E => ?_
 refine q_sq ?_
 refine q_vn [] 0 ⟨[(1, vp 0 0)], [(0, bx 62 (qA a1))]⟩ ?_
 refine q_sq ?_
 refine q_jn (ι := Bool) (fun p => IL a1 p) (fun p => ZT a1 p = some r) ?_ ?_
 ·rintro x9 hm
  show H _ (IL a1 x9) _ _
  refine q_cn x9 (fun b10 => ?_) (fun b10 => ?_)
  ·replace hm := qC b10 hm
   refine q_sq ?_
   refine q_vn [] 1 ⟨[(2, vi 0), (3, vi 0)], []⟩ ?_
   obtain rfl := Option.some.inj hm
   refine q_rt ?_
   exact q_rm
  ·replace hm := qB b10 hm
   refine q_sk ?_
   refine q_sq ?_
   obtain ⟨v11, h12, hm⟩ := qD hm
   obtain ⟨v13, h14, hm⟩ := qD hm
   refine q_dn [qc 4 [25, 27] 1 (qBQ a1.Thick a1.Allow v11 h12), qc 9 [30, 32] 1 (qBQ a1.Width a1.Allow v13 h14)] [0, 1, 0, 4, 15, 0, 32, 0, 128, 511, 1023, 2047] 1 ⟨[(2, vi v11), (3, vi v13)], []⟩ ?_
   obtain rfl := Option.some.inj hm
   refine q_rt ?_
   exact q_rm
 ·obtain ⟨v2, h3, hm⟩ := qD hm
  rcases Bool.eq_false_or_eq_true (!v2) with b4 | b4
  ·replace hm := qC b4 hm
   refine q_vu [qc 2 [5] 1 (yJ a1.Thick v2 h3), qf 4 b4] 1 [] [(23, vb true)] [] [] ?_
   exact q_J (true) hm
  ·replace hm := qB b4 hm
   obtain ⟨v5, h6, hm⟩ := qD hm
   rcases Bool.eq_false_or_eq_true (!v5) with b7 | b7
   ·replace hm := qC b7 hm
    refine q_vu [qc 2 [5] 1 (yJ a1.Thick v2 h3), qf 4 b4, qk 7 [8, 10] 1 ⟨[(8, vb false), (10, vi a1.Width)], []⟩ (yJ a1.Width v5 h6), qf 10 b7] 1 [] [(23, vb true)] [] [] ?_
    exact q_J (true) hm
   ·replace hm := qB b7 hm
    rcases Bool.eq_false_or_eq_true (decide (a1.Allow < 0)) with b8 | b8
    ·replace hm := qC b8 hm
     refine q_vu [qc 2 [5] 1 (yJ a1.Thick v2 h3), qf 4 b4, qk 7 [8, 10] 1 ⟨[(8, vb false), (10, vi a1.Width)], []⟩ (yJ a1.Width v5 h6), qf 10 b7, qf 15 b8] 1 [] [(23, vb true)] [] [] ?_
     exact q_J (true) hm
    ·replace hm := qB b8 hm
     refine q_vu [qc 2 [5] 1 (yJ a1.Thick v2 h3), qf 4 b4, qk 7 [8, 10] 1 ⟨[(8, vb false), (10, vi a1.Width)], []⟩ (yJ a1.Width v5 h6), qf 10 b7, qf 15 b8] 1 [] [(23, vb (decide (a1.Allow > 200)))] [] [] ?_
     exact q_J (decide (a1.Allow > 200)) hm
set_option maxRecDepth 100000
def yQ (r : Int) : V := vi r
def yS (r : Int) : List (Nat × (Nat × O)) := []
def GD (a1 : Product) (x18 : Int) (x26 : Bool) : St :=
 ⟨[(1, vp 0 0), (70, vc (tl qN default a1.Lengths)), (71, vi ((a1.Lengths.length : Nat) : Int)), (72, vi x18), (94, vb x26)], [(0, bx 62 (qA a1))]⟩
def GF (a1 : Product) (x18 : Int) (x22 : Bool) : St :=
 ⟨[(1, vp 0 0), (5, vi x18), (6, vi (a1.Lengths.getD x18.toNat default)), (70, vc (tl qN default a1.Lengths)), (71, vi ((a1.Lengths.length : Nat) : Int)), (72, vi x18), (82, vb x22)], [(0, bx 62 (qA a1))]⟩
def JL (a1 : Product) (x18 : Int) : St :=
 ⟨[(1, vp 0 0), (70, vc (tl qN default a1.Lengths)), (71, vi ((a1.Lengths.length : Nat) : Int)), (72, vi x18)], [(0, bx 62 (qA a1))]⟩
def GS (a1 : Product) : St :=
 ⟨[(1, vp 0 0)], [(0, bx 62 (qA a1))]⟩
def VX (a1 : Product) (x32 : Int) (x36 : Bool) : St :=
 ⟨[(97, vc (tl qN default a1.Prices)), (98, vi ((a1.Prices.length : Nat) : Int)), (99, vi x32), (108, vb x36)], []⟩
def JM (a1 : Product) (x32 : Int) : St :=
 ⟨[(97, vc (tl qN default a1.Prices)), (98, vi ((a1.Prices.length : Nat) : Int)), (99, vi x32)], []⟩
def GN : St :=
 ⟨[], []⟩
def GM (a1 : Product) (x10 : Bool) : St :=
 ⟨[(1, vp 0 0), (46, vb x10)], [(0, bx 62 (qA a1))]⟩
def VV (a1 : Product) (x5 : Bool) : St :=
 ⟨[(1, vp 0 0), (28, vb x5)], [(0, bx 62 (qA a1))]⟩
theorem OX (E : Env 0) (a1 : Product) : ∀ (n : Nat) (x18 : Int) (res : Int ⊕ Unit), zI a1 n x18 = some res → HL (kx E 110 0) (nd Tryz.f97 4084) (wI 0 (fun o => GS a1) (fun v st => RetQ Tryz.prog Tryz.f97 (yQ v) (yS v) .ret st) res) n (JL a1 x18) := by
 intro n
 induction n with
 | zero =>
  intro x18 res hm
  cases hm
 | succ n ih =>
  intro x18 res hm
  refine qR ?_
  refine q_sq ?_
  refine q_vu [] 1 [] [(73, vb (decide (x18 < ((a1.Lengths.length : Nat) : Int))))] [] [] ?_
  refine q_sq ?_
  refine q_cn (decide (x18 < ((a1.Lengths.length : Nat) : Int))) (fun b19 => ?_) (fun b19 => ?_)
  ·replace hm := qC b19 hm
   refine q_sk ?_
   refine q_sq ?_
   refine q_bk 1 ?_
   refine q_sq ?_
   obtain ⟨g20, hm⟩ := qL hm
   refine q_vu [qd 1 (Dir.none) (inb_of g20)] 1 [73] [(5, vi x18), (6, vi (a1.Lengths.getD x18.toNat default))] [] [] ?_
   refine q_sq ?_
   refine q_jn (ι := Bool) (fun p => GF a1 x18 p) (fun p => ZK a1 x18 (zI a1 n) p = some res) ?_ ?_
   ·rintro x22 hm
    show H _ (GF a1 x18 x22) _ _
    refine q_cn x22 (fun b23 => ?_) (fun b23 => ?_)
    ·replace hm := qC b23 hm
     refine q_sq ?_
     refine q_vn [] 1 ⟨[(2, vi 9)], []⟩ ?_
     obtain rfl := Option.some.inj hm
     refine q_rt ?_
     refine qY 9 ?_
     exact q_rm
    ·replace hm := qB b23 hm
     refine q_sk ?_
     refine q_jn (ι := Bool) (fun p => GD a1 x18 p) (fun p => ZH x18 (zI a1 n) p = some res) ?_ ?_
     ·rintro x26 hm
      show H _ (GD a1 x18 x26) _ _
      refine q_cn x26 (fun b27 => ?_) (fun b27 => ?_)
      ·replace hm := qC b27 hm
       refine q_sq ?_
       refine q_vn [] 1 ⟨[(2, vi 11)], []⟩ ?_
       obtain rfl := Option.some.inj hm
       refine q_rt ?_
       refine qY 11 ?_
       exact q_rm
      ·replace hm := qB b27 hm
       refine q_sk ?_
       refine q_vu [] 1 [72, 94] [(72, vi (w64 (x18 + 1)))] [] [] ?_
       exact q_hl (JL a1 (w64 (x18 + 1))) (ih (w64 (x18 + 1)) _ hm)
     ·rcases Bool.eq_false_or_eq_true (decide (x18 > 0)) with b24 | b24
      ·replace hm := qC b24 hm
       obtain ⟨g25, hm⟩ := qL hm
       refine q_vu [qf 2 b24, qd 8 (Dir.none) (inb_of g25)] 1 [5, 6, 82] [(94, vb (decide ((a1.Lengths.getD x18.toNat default) ≤ (a1.Lengths.getD (w64 (x18 - 1)).toNat default))))] [] [] ?_
       exact q_J (decide ((a1.Lengths.getD x18.toNat default) ≤ (a1.Lengths.getD (w64 (x18 - 1)).toNat default))) hm
      ·replace hm := qB b24 hm
       refine q_vu [qf 2 b24] 1 [5, 6, 82] [(94, vb false)] [] [] ?_
       exact q_J (false) hm
   ·rcases Bool.eq_false_or_eq_true (decide ((a1.Lengths.getD x18.toNat default) < 100)) with b21 | b21
    ·replace hm := qC b21 hm
     refine q_vu [qf 2 b21] 1 [] [(82, vb true)] [] [] ?_
     exact q_J (true) hm
    ·replace hm := qB b21 hm
     refine q_vu [qf 2 b21] 1 [] [(82, vb (decide ((a1.Lengths.getD x18.toNat default) > 20000)))] [] [] ?_
     exact q_J (decide ((a1.Lengths.getD x18.toNat default) > 20000)) hm
  ·replace hm := qB b19 hm
   refine q_ex 0 ?_
   obtain rfl := Option.some.inj hm
   exact wJ () (by kernel_rfl) (by kernel_rfl)
theorem OQ (E : Env 0) (a1 : Product) : ∀ (n : Nat) (x32 : Int) (res : Int ⊕ Unit), zP a1 n x32 = some res → HL (kx E 110 0) (nd Tryz.f97 8180) (wI 2 (fun o => GN) (fun v st => RetQ Tryz.prog Tryz.f97 (yQ v) (yS v) .ret st) res) n (JM a1 x32) := by
 intro n
 induction n with
 | zero =>
  intro x32 res hm
  cases hm
 | succ n ih =>
  intro x32 res hm
  refine qR ?_
  refine q_sq ?_
  refine q_vu [] 1 [] [(100, vb (decide (x32 < ((a1.Prices.length : Nat) : Int))))] [] [] ?_
  refine q_sq ?_
  refine q_cn (decide (x32 < ((a1.Prices.length : Nat) : Int))) (fun b33 => ?_) (fun b33 => ?_)
  ·replace hm := qC b33 hm
   refine q_sk ?_
   refine q_sq ?_
   refine q_bk 3 ?_
   refine q_sq ?_
   obtain ⟨g34, hm⟩ := qL hm
   refine q_vu [qd 0 (Dir.none) (inb_of g34)] 1 [100] [(8, vi (a1.Prices.getD x32.toNat default))] [] [] ?_
   refine q_jn (ι := Bool) (fun p => VX a1 x32 p) (fun p => ZJ x32 (zP a1 n) p = some res) ?_ ?_
   ·rintro x36 hm
    show H _ (VX a1 x32 x36) _ _
    refine q_cn x36 (fun b37 => ?_) (fun b37 => ?_)
    ·replace hm := qC b37 hm
     refine q_sq ?_
     refine q_vn [] 1 ⟨[(2, vi 9)], []⟩ ?_
     obtain rfl := Option.some.inj hm
     refine q_rt ?_
     refine qY 9 ?_
     exact q_rm
    ·replace hm := qB b37 hm
     refine q_sk ?_
     refine q_vu [] 1 [99, 108] [(99, vi (w64 (x32 + 1)))] [] [] ?_
     exact q_hl (JM a1 (w64 (x32 + 1))) (ih (w64 (x32 + 1)) _ hm)
   ·rcases Bool.eq_false_or_eq_true (decide ((a1.Prices.getD x32.toNat default) < 0)) with b35 | b35
    ·replace hm := qC b35 hm
     refine q_vu [qf 2 b35] 1 [8] [(108, vb true)] [] [] ?_
     exact q_J (true) hm
    ·replace hm := qB b35 hm
     refine q_vu [qf 2 b35] 1 [8] [(108, vb (decide ((a1.Prices.getD x32.toNat default) > 1000000)))] [] [] ?_
     exact q_J (decide ((a1.Prices.getD x32.toNat default) > 1000000)) hm
  ·replace hm := qB b33 hm
   refine q_ex 2 ?_
   obtain rfl := Option.some.inj hm
   exact wJ () (by kernel_rfl) (by kernel_rfl)
theorem qBP (a1 : Product) (r : Int) (hm : QI a1 = some r) : CtX Tryz.prog globs 97 0 0 [.agg (qA a1)] [] (yQ r) (yS r) := by
 unfold QI at hm
 refine q_E Tryz.f97 110 fun E => ?_
 refine q_sq ?_
 refine q_vn [] 0 ⟨[(1, vp 0 0)], [(0, bx 62 (qA a1))]⟩ ?_
 refine q_sq ?_
 refine q_jn (ι := Bool) (fun p => VV a1 p) (fun p => wR a1 p = some r) ?_ ?_
 ·rintro x5 hm
  show H _ (VV a1 x5) _ _
  refine q_cn x5 (fun b6 => ?_) (fun b6 => ?_)
  ·replace hm := qC b6 hm
   refine q_sq ?_
   refine q_vn [] 1 ⟨[(2, vi 9)], []⟩ ?_
   obtain rfl := Option.some.inj hm
   refine q_rt ?_
   exact q_rm
  ·replace hm := qB b6 hm
   refine q_sk ?_
   refine q_sq ?_
   refine q_jn (ι := Bool) (fun p => GM a1 p) (fun p => wQ a1 p = some r) ?_ ?_
   ·rintro x10 hm
    show H _ (GM a1 x10) _ _
    refine q_cn x10 (fun b11 => ?_) (fun b11 => ?_)
    ·replace hm := qC b11 hm
     refine q_sq ?_
     refine q_vn [] 1 ⟨[(2, vi 9)], []⟩ ?_
     obtain rfl := Option.some.inj hm
     refine q_rt ?_
     exact q_rm
    ·replace hm := qB b11 hm
     refine q_sk ?_
     refine q_sq ?_
     refine q_sq ?_
     obtain ⟨v12, h13, hm⟩ := qD hm
     refine q_vu [qc 1 [48] 1 (MU a1 v12 h13)] 1 [46] [(4, vi v12.2)] [] [] ?_
     refine q_sq ?_
     refine q_vu [] 1 [4] [(53, vb (decide (v12.2 > 600)))] [] [] ?_
     refine q_cn (decide (v12.2 > 600)) (fun b14 => ?_) (fun b14 => ?_)
     ·replace hm := qC b14 hm
      refine q_sq ?_
      refine q_vn [] 1 ⟨[(2, vi 9)], []⟩ ?_
      obtain rfl := Option.some.inj hm
      refine q_rt ?_
      exact q_rm
     ·replace hm := qB b14 hm
      refine q_sk ?_
      refine q_sq ?_
      refine q_sq ?_
      refine q_vu [] 1 [53] [(57, vb (((a1.Lengths.length : Nat) : Int) == 0))] [] [] ?_
      refine q_cn (((a1.Lengths.length : Nat) : Int) == 0) (fun b15 => ?_) (fun b15 => ?_)
      ·replace hm := qC b15 hm
       refine q_sq ?_
       refine q_vn [] 1 ⟨[(2, vi 3)], []⟩ ?_
       obtain rfl := Option.some.inj hm
       refine q_rt ?_
       exact q_rm
      ·replace hm := qB b15 hm
       refine q_sk ?_
       refine q_sq ?_
       refine q_sq ?_
       refine q_vu [] 1 [57] [(61, vb (decide (((a1.Lengths.length : Nat) : Int) > 8)))] [] [] ?_
       refine q_cn (decide (((a1.Lengths.length : Nat) : Int) > 8)) (fun b16 => ?_) (fun b16 => ?_)
       ·replace hm := qC b16 hm
        refine q_sq ?_
        refine q_vn [] 1 ⟨[(2, vi 4)], []⟩ ?_
        obtain rfl := Option.some.inj hm
        refine q_rt ?_
        exact q_rm
       ·replace hm := qB b16 hm
        refine q_sk ?_
        refine q_sq ?_
        refine q_sq ?_
        refine q_vu [] 1 [61] [(68, vb (((a1.Prices.length : Nat) : Int) != ((a1.Lengths.length : Nat) : Int)))] [] [] ?_
        refine q_cn (((a1.Prices.length : Nat) : Int) != ((a1.Lengths.length : Nat) : Int)) (fun b17 => ?_) (fun b17 => ?_)
        ·replace hm := qC b17 hm
         refine q_sq ?_
         refine q_vn [] 1 ⟨[(2, vi 19)], []⟩ ?_
         obtain rfl := Option.some.inj hm
         refine q_rt ?_
         exact q_rm
        ·replace hm := qB b17 hm
         refine q_sk ?_
         refine q_sq ?_
         refine q_sq ?_
         refine q_vu [] 1 [68] [(70, vc (tl qN default a1.Lengths)), (71, vi ((a1.Lengths.length : Nat) : Int)), (72, vi 0)] [] [] ?_
         obtain ⟨u30, h29, hm⟩ := qD hm
         refine zM (nd Tryz.f97 4084) 0 (by kernel_rfl) FUEL (fun o => GS a1) (fun v st => RetQ Tryz.prog Tryz.f97 (yQ v) (yS v) .ret st) u30 (q_hl (JL a1 0) (OX E a1 FUEL 0 u30 h29)) ?_ ?_
         ·rintro v31 rfl st hr
          obtain rfl := Option.some.inj hm
          exact hr
         ·rintro o28 rfl
          replace hm : _ = some r := hm
          refine q_sq ?_
          refine q_sq ?_
          refine q_vn [] 1 ⟨[(97, vc (tl qN default a1.Prices)), (98, vi ((a1.Prices.length : Nat) : Int)), (99, vi 0)], []⟩ ?_
          obtain ⟨u40, h39, hm⟩ := qD hm
          refine zM (nd Tryz.f97 8180) 2 (by kernel_rfl) FUEL (fun o => GN) (fun v st => RetQ Tryz.prog Tryz.f97 (yQ v) (yS v) .ret st) u40 (q_hl (JM a1 0) (OQ E a1 FUEL 0 u40 h39)) ?_ ?_
          ·rintro v41 rfl st hr
           obtain rfl := Option.some.inj hm
           exact hr
          ·rintro o38 rfl
           replace hm : _ = some r := hm
           refine q_sq ?_
           refine q_vn [] 1 ⟨[(2, vi 0)], []⟩ ?_
           obtain rfl := Option.some.inj hm
           refine q_rt ?_
           exact q_rm
   ·rcases Bool.eq_false_or_eq_true (decide (a1.Allow < 0)) with b7 | b7
    ·replace hm := qC b7 hm
     refine q_vu [qf 3 b7] 1 [28] [(46, vb true)] [] [] ?_
     exact q_J (true) hm
    ·replace hm := qB b7 hm
     rcases Bool.eq_false_or_eq_true (decide (a1.Allow > 200)) with b8 | b8
     ·replace hm := qC b8 hm
      refine q_vu [qf 3 b7, qf 8 b8] 1 [28] [(46, vb true)] [] [] ?_
      exact q_J (true) hm
     ·replace hm := qB b8 hm
      rcases Bool.eq_false_or_eq_true (decide (a1.Wane < 0)) with b9 | b9
      ·replace hm := qC b9 hm
       refine q_vu [qf 3 b7, qf 8 b8, qf 13 b9] 1 [28] [(46, vb true)] [] [] ?_
       exact q_J (true) hm
      ·replace hm := qB b9 hm
       refine q_vu [qf 3 b7, qf 8 b8, qf 13 b9] 1 [28] [(46, vb (decide (a1.Wane > 1000)))] [] [] ?_
       exact q_J (decide (a1.Wane > 1000)) hm
 ·rcases Bool.eq_false_or_eq_true (decide (a1.Thick < 5)) with b2 | b2
  ·replace hm := qC b2 hm
   refine q_vu [qf 3 b2] 1 [] [(28, vb true)] [] [] ?_
   exact q_J (true) hm
  ·replace hm := qB b2 hm
   rcases Bool.eq_false_or_eq_true (decide (a1.Thick > 300)) with b3 | b3
   ·replace hm := qC b3 hm
    refine q_vu [qf 3 b2, qf 8 b3] 1 [] [(28, vb true)] [] [] ?_
    exact q_J (true) hm
   ·replace hm := qB b3 hm
    rcases Bool.eq_false_or_eq_true (decide (a1.Width < a1.Thick)) with b4 | b4
    ·replace hm := qC b4 hm
     refine q_vu [qf 3 b2, qf 8 b3, qf 15 b4] 1 [] [(28, vb true)] [] [] ?_
     exact q_J (true) hm
    ·replace hm := qB b4 hm
     refine q_vu [qf 3 b2, qf 8 b3, qf 15 b4] 1 [] [(28, vb (decide (a1.Width > 600)))] [] [] ?_
     exact q_J (decide (a1.Width > 600)) hm
open Go.Proofs
set_option maxHeartbeats 4000000
set_option maxRecDepth 100000
def KL (r : Int) : V := vi r
def QZ (r : Int) : List (Nat × (Nat × O)) := []
theorem qCd (r : Int) : KW (QZ r) := by
 intro i k o h
 unfold QZ at h
 cases h
def DG (a1 : List Product) (x3 : Int) : St :=
 ⟨[(0, vc (tl qA default a1)), (11, vc (tl qA default a1)), (12, vi ((a1.length : Nat) : Int)), (13, vi x3)], []⟩
def OG : St :=
 ⟨[], []⟩
theorem qEc (E : Env 0) (a1 : List Product) : ∀ (n : Nat) (x3 : Int) (res : Int ⊕ Unit), yX a1 n x3 = some res → HL (kx E 38 0) (nd Tryz.f58 116) (wI 0 (fun o => OG) (fun v st => RetQ Tryz.prog Tryz.f58 (KL v) (QZ v) .ret st) res) n (DG a1 x3) := by
 intro n
 induction n with
 | zero =>
  intro x3 res hm
  cases hm
 | succ n ih =>
  intro x3 res hm
  refine qR ?_
  refine q_sq ?_
  refine q_vu [] 0 [] [(14, vb (decide (x3 < ((a1.length : Nat) : Int))))] [] [] ?_
  refine q_sq ?_
  refine q_cn (decide (x3 < ((a1.length : Nat) : Int))) (fun b4 => ?_) (fun b4 => ?_)
  ·replace hm := qC b4 hm
   refine q_sk ?_
   refine q_sq ?_
   refine q_bk 1 ?_
   refine q_sq ?_
   obtain ⟨g5, hm⟩ := qL hm
   refine q_vu [qd 1 (Dir.none) (inb_of g5)] 0 [14] [(3, vi x3), (4, vp 0 0)] [] [(0, bx 62 [cs ((a1.getD x3.toNat default).Name), ci ((a1.getD x3.toNat default).Thick), ci ((a1.getD x3.toNat default).Width), ci ((a1.getD x3.toNat default).Allow), ci ((a1.getD x3.toNat default).Wane), tl qN default ((a1.getD x3.toNat default).Lengths), tl qN default ((a1.getD x3.toNat default).Prices)])] ?_
   refine q_sq ?_
   refine q_sq ?_
   obtain ⟨v6, h7, hm⟩ := qD hm
   refine q_vu [qc 2 [19] 1 (qHu ((a1.getD x3.toNat default).Name) v6 h7)] 1 [] [(21, vb (!v6))] [] [] ?_
   refine q_cn (!v6) (fun b8 => ?_) (fun b8 => ?_)
   ·replace hm := qC b8 hm
    refine q_sq ?_
    refine q_vn [] 1 ⟨[(2, vi 6)], []⟩ ?_
    obtain rfl := Option.some.inj hm
    refine q_rt ?_
    refine qY 6 ?_
    exact q_rm
   ·replace hm := qB b8 hm
    refine q_sk ?_
    refine q_sq ?_
    refine q_sq ?_
    obtain ⟨g9, hm⟩ := qL hm
    obtain ⟨v10, h11, hm⟩ := qD hm
    refine q_du [qd 2 (drw ((a1.take x3.toNat).length) 0 (rf qA (a1.take x3.toNat))) (slPhi qA default a1 x3 (And.intro (slOk_of g9).2.1 (slOk_of g9).2.2)), qc 5 [25, 27] 1 (qHt (a1.take x3.toNat) ((a1.getD x3.toNat default).Name) v10 h11)] [0, 0, 3, 0, 8, 31, 63, 127, 127, 255, 1023] 1 [3, 21] [(6, vb v10.2)] [] [] ?_
    refine q_sq ?_
    refine q_vu [] 1 [6] [(31, vb v10.2)] [] [] ?_
    refine q_cn v10.2 (fun b12 => ?_) (fun b12 => ?_)
    ·replace hm := qC b12 hm
     refine q_sq ?_
     refine q_vn [] 1 ⟨[(2, vi 7)], []⟩ ?_
     obtain rfl := Option.some.inj hm
     refine q_rt ?_
     refine qY 7 ?_
     exact q_rm
    ·replace hm := qB b12 hm
     refine q_sk ?_
     refine q_sq ?_
     obtain ⟨v13, h14, hm⟩ := qD hm
     refine q_vu [qc 1 [32] 1 (qBP (a1.getD x3.toNat default) v13 h14)] 1 [4, 31] [(7, vi v13)] [0] [] ?_
     refine q_sq ?_
     refine q_vu [] 1 [] [(35, vb (v13 != 0))] [] [] ?_
     refine q_cn (v13 != 0) (fun b15 => ?_) (fun b15 => ?_)
     ·replace hm := qC b15 hm
      refine q_sq ?_
      refine q_vn [] 1 ⟨[(2, vi v13)], []⟩ ?_
      obtain rfl := Option.some.inj hm
      refine q_rt ?_
      refine qY v13 ?_
      exact q_rm
     ·replace hm := qB b15 hm
      refine q_sk ?_
      refine q_vu [] 1 [7, 13, 35] [(13, vi (w64 (x3 + 1)))] [] [] ?_
      exact q_hl (DG a1 (w64 (x3 + 1))) (ih (w64 (x3 + 1)) _ hm)
  ·replace hm := qB b4 hm
   refine q_ex 0 ?_
   obtain rfl := Option.some.inj hm
   exact wJ () (by kernel_rfl) (by kernel_rfl)
theorem MQ (a1 : List Product) (r : Int) (hm : XW a1 = some r) : CtX Tryz.prog globs 58 0 0 [.one (tl qA default a1)] [] (KL r) (QZ r) := by
 unfold XW at hm
 refine q_E Tryz.f58 38 fun E => ?_
 refine q_sq ?_
 refine q_vn [] 0 ⟨[(0, vc (tl qA default a1))], []⟩ ?_
 refine q_sq ?_
 refine q_sq ?_
 refine q_vu [] 0 [] [(10, vb (decide (((a1.length : Nat) : Int) > 16)))] [] [] ?_
 refine q_cn (decide (((a1.length : Nat) : Int) > 16)) (fun b2 => ?_) (fun b2 => ?_)
 ·replace hm := qC b2 hm
  refine q_sq ?_
  refine q_vn [] 0 ⟨[(2, vi 4)], []⟩ ?_
  obtain rfl := Option.some.inj hm
  refine q_rt ?_
  exact q_rm
 ·replace hm := qB b2 hm
  refine q_sk ?_
  refine q_sq ?_
  refine q_sq ?_
  refine q_vu [] 0 [10] [(11, vc (tl qA default a1)), (12, vi ((a1.length : Nat) : Int)), (13, vi 0)] [] [] ?_
  obtain ⟨u18, h17, hm⟩ := qD hm
  refine zM (nd Tryz.f58 116) 0 (by kernel_rfl) FUEL (fun o => OG) (fun v st => RetQ Tryz.prog Tryz.f58 (KL v) (QZ v) .ret st) u18 (q_hl (DG a1 0) (qEc E a1 FUEL 0 u18 h17)) ?_ ?_
  ·rintro v19 rfl st hr
   obtain rfl := Option.some.inj hm
   exact hr
  ·rintro o16 rfl
   replace hm : _ = some r := hm
   refine q_sq ?_
   refine q_vn [] 0 ⟨[(2, vi 0)], []⟩ ?_
   obtain rfl := Option.some.inj hm
   refine q_rt ?_
   exact q_rm
def qJp (r : Bool) : V := vb r
def qIT (r : Bool) : List (Nat × (Nat × O)) := []
def qAd (x3 : Bool) : St :=
 ⟨[(2, vb x3)], []⟩
theorem qCf (a1 : Int) (r : Bool) (hm : RB a1 = some r) : CtX Tryz.prog globs 66 0 0 [.one (ci a1)] [] (qJp r) (qIT r) := by
 unfold RB at hm
 refine q_E Tryz.f66 9 fun E => ?_
 refine q_sq ?_
 refine q_vn [] 0 ⟨[(0, vi a1)], []⟩ ?_
 refine q_jn (ι := Bool) (fun p => qAd p) (fun p => GR p = some r) ?_ ?_
 ·rintro x3 hm
  show H _ (qAd x3) _ _
  obtain rfl := Option.some.inj hm
  refine q_rt ?_
  exact q_rm
 ·rcases Bool.eq_false_or_eq_true (decide (a1 ≥ 0)) with b2 | b2
  ·replace hm := qC b2 hm
   refine q_vn [qf 2 b2] 0 ⟨[(2, vb (decide (a1 ≤ 1000000)))], []⟩ ?_
   exact q_J (decide (a1 ≤ 1000000)) hm
  ·replace hm := qB b2 hm
   refine q_vn [qf 2 b2] 0 ⟨[(2, vb false)], []⟩ ?_
   exact q_J (false) hm
set_option maxRecDepth 100000
def qIN (r : Bool) : V := vb r
def qII (r : Bool) : List (Nat × (Nat × O)) := []
def CE (x3 : Bool) : St :=
 ⟨[(2, vb x3)], []⟩
theorem SI (a1 : Int) (r : Bool) (hm : RM a1 = some r) : CtX Tryz.prog globs 65 0 0 [.one (ci a1)] [] (qIN r) (qII r) := by
 unfold RM at hm
 refine q_E Tryz.f65 9 fun E => ?_
 refine q_sq ?_
 refine q_vn [] 0 ⟨[(0, vi a1)], []⟩ ?_
 refine q_jn (ι := Bool) (fun p => CE p) (fun p => VZ p = some r) ?_ ?_
 ·rintro x3 hm
  show H _ (CE x3) _ _
  obtain rfl := Option.some.inj hm
  refine q_rt ?_
  exact q_rm
 ·rcases Bool.eq_false_or_eq_true (decide (a1 ≥ 1)) with b2 | b2
  ·replace hm := qC b2 hm
   refine q_vn [qf 2 b2] 0 ⟨[(2, vb (decide (a1 ≤ 20000)))], []⟩ ?_
   exact q_J (decide (a1 ≤ 20000)) hm
  ·replace hm := qB b2 hm
   refine q_vn [qf 2 b2] 0 ⟨[(2, vb false)], []⟩ ?_
   exact q_J (false) hm
open Go.Proofs
set_option maxHeartbeats 4000000
set_option maxRecDepth 100000
def qKz (r : Int) : V := vi r
def qKX (r : Int) : List (Nat × (Nat × O)) := []
def qBG (x20 : Bool) : St :=
 ⟨[(60, vb x20)], []⟩
def qAL (a2 : Rates) (x12 : Bool) : St :=
 ⟨[(3, vp 1 0), (36, vb x12)], [(1, bx 35 (yP a2))]⟩
def qBu (a1 : Saw) (a2 : Rates) (x6 : Bool) : St :=
 ⟨[(2, vp 0 0), (3, vp 1 0), (22, vb x6)], [(0, bx 33 (wC a1)), (1, bx 35 (yP a2))]⟩
theorem qIF (a1 : Saw) (a2 : Rates) (r : Int) (hm : FR a1 a2 = some r) : CtX Tryz.prog globs 59 0 0 [.agg (wC a1), .agg (yP a2)] [] (qKz r) (qKX r) := by
 unfold FR at hm
 refine q_E Tryz.f59 61 fun E => ?_
 refine q_sq ?_
 refine q_vn [] 0 ⟨[(2, vp 0 0), (3, vp 1 0)], [(0, bx 33 (wC a1)), (1, bx 35 (yP a2))]⟩ ?_
 refine q_sq ?_
 refine q_jn (ι := Bool) (fun p => qBu a1 a2 p) (fun p => YI a1 a2 p = some r) ?_ ?_
 ·rintro x6 hm
  show H _ (qBu a1 a2 x6) _ _
  refine q_cn x6 (fun b7 => ?_) (fun b7 => ?_)
  ·replace hm := qC b7 hm
   refine q_sq ?_
   refine q_vn [] 2 ⟨[(4, vi 9)], []⟩ ?_
   obtain rfl := Option.some.inj hm
   refine q_rt ?_
   exact q_rm
  ·replace hm := qB b7 hm
   refine q_sk ?_
   refine q_sq ?_
   refine q_jn (ι := Bool) (fun p => qAL a2 p) (fun p => RT a2 p = some r) ?_ ?_
   ·rintro x12 hm
    show H _ (qAL a2 x12) _ _
    refine q_cn x12 (fun b13 => ?_) (fun b13 => ?_)
    ·replace hm := qC b13 hm
     refine q_sq ?_
     refine q_vn [] 2 ⟨[(4, vi 9)], []⟩ ?_
     obtain rfl := Option.some.inj hm
     refine q_rt ?_
     exact q_rm
    ·replace hm := qB b13 hm
     refine q_sk ?_
     refine q_sq ?_
     refine q_jn (ι := Bool) (fun p => qBG p) (fun p => ZX p = some r) ?_ ?_
     ·rintro x20 hm
      show H _ (qBG x20) _ _
      refine q_cn x20 (fun b21 => ?_) (fun b21 => ?_)
      ·replace hm := qC b21 hm
       refine q_sq ?_
       refine q_vn [] 2 ⟨[(4, vi 9)], []⟩ ?_
       obtain rfl := Option.some.inj hm
       refine q_rt ?_
       exact q_rm
      ·replace hm := qB b21 hm
       refine q_sk ?_
       refine q_sq ?_
       refine q_vn [] 2 ⟨[(4, vi 0)], []⟩ ?_
       obtain rfl := Option.some.inj hm
       refine q_rt ?_
       exact q_rm
     ·rcases Bool.eq_false_or_eq_true (decide (a2.Chip < 0)) with b14 | b14
      ·replace hm := qC b14 hm
       refine q_vn [qf 3 b14] 2 ⟨[(60, vb true)], []⟩ ?_
       exact q_J (true) hm
      ·replace hm := qB b14 hm
       rcases Bool.eq_false_or_eq_true (decide (a2.Chip > 1000)) with b15 | b15
       ·replace hm := qC b15 hm
        refine q_vn [qf 3 b14, qf 8 b15] 2 ⟨[(60, vb true)], []⟩ ?_
        exact q_J (true) hm
       ·replace hm := qB b15 hm
        rcases Bool.eq_false_or_eq_true (decide (a2.Dust < 0)) with b16 | b16
        ·replace hm := qC b16 hm
         refine q_vn [qf 3 b14, qf 8 b15, qf 13 b16] 2 ⟨[(60, vb true)], []⟩ ?_
         exact q_J (true) hm
        ·replace hm := qB b16 hm
         rcases Bool.eq_false_or_eq_true (decide (a2.Dust > 1000)) with b17 | b17
         ·replace hm := qC b17 hm
          refine q_vn [qf 3 b14, qf 8 b15, qf 13 b16, qf 18 b17] 2 ⟨[(60, vb true)], []⟩ ?_
          exact q_J (true) hm
         ·replace hm := qB b17 hm
          obtain ⟨v18, h19, hm⟩ := qD hm
          refine q_vn [qf 3 b14, qf 8 b15, qf 13 b16, qf 18 b17, qk 21 [55, 57] 2 ⟨[(55, vb false), (57, vi a2.Fine)], []⟩ (qCf a2.Fine v18 h19)] 2 ⟨[(60, vb (!v18))], []⟩ ?_
          exact q_J (!v18) hm
   ·rcases Bool.eq_false_or_eq_true (decide (a1.Pitch < 1)) with b8 | b8
    ·replace hm := qC b8 hm
     refine q_vu [qf 3 b8] 2 [2, 22] [(36, vb true)] [0] [] ?_
     exact q_J (true) hm
    ·replace hm := qB b8 hm
     rcases Bool.eq_false_or_eq_true (decide (a1.Pitch > 2000)) with b9 | b9
     ·replace hm := qC b9 hm
      refine q_vu [qf 3 b8, qf 8 b9] 2 [2, 22] [(36, vb true)] [0] [] ?_
      exact q_J (true) hm
     ·replace hm := qB b9 hm
      obtain ⟨v10, h11, hm⟩ := qD hm
      refine q_vu [qf 3 b8, qf 8 b9, qk 11 [31, 33] 2 ⟨[(31, vb false), (33, vi a1.Step)], []⟩ (SI a1.Step v10 h11)] 2 [2, 22] [(36, vb (!v10))] [0] [] ?_
      exact q_J (!v10) hm
 ·rcases Bool.eq_false_or_eq_true (decide (a1.Kerf < 0)) with b3 | b3
  ·replace hm := qC b3 hm
   refine q_vu [qf 3 b3] 2 [] [(22, vb true)] [] [] ?_
   exact q_J (true) hm
  ·replace hm := qB b3 hm
   rcases Bool.eq_false_or_eq_true (decide (a1.Kerf > 20)) with b4 | b4
   ·replace hm := qC b4 hm
    refine q_vu [qf 3 b3, qf 8 b4] 2 [] [(22, vb true)] [] [] ?_
    exact q_J (true) hm
   ·replace hm := qB b4 hm
    rcases Bool.eq_false_or_eq_true (decide (a1.Trim < 0)) with b5 | b5
    ·replace hm := qC b5 hm
     refine q_vu [qf 3 b3, qf 8 b4, qf 13 b5] 2 [] [(22, vb true)] [] [] ?_
     exact q_J (true) hm
    ·replace hm := qB b5 hm
     refine q_vu [qf 3 b3, qf 8 b4, qf 13 b5] 2 [] [(22, vb (decide (a1.Trim > 20)))] [] [] ?_
     exact q_J (decide (a1.Trim > 20)) hm
def NZ (r : Bool) : V := vb r
def FK (r : Bool) : List (Nat × (Nat × O)) := []
def EN (a1 : Rect) (x2 : Int) (x7 : Bool) : St :=
 ⟨[(9, va (qE a1)), (10, vi x2), (27, vb x7)], []⟩
def TE (a1 : Rect) (x2 : Int) : St :=
 ⟨[(9, va (qE a1)), (10, vi x2)], []⟩
def HM : St :=
 ⟨[], []⟩
theorem qDj (E : Env 0) (a1 : Rect) : ∀ (n : Nat) (x2 : Int) (res : Bool ⊕ Unit), zN a1 n x2 = some res → HL (kx E 29 0) (nd Tryz.f100 52) (wI 0 (fun o => HM) (fun v st => RetQ Tryz.prog Tryz.f100 (NZ v) (FK v) .ret st) res) n (TE a1 x2) := by
 intro n
 induction n with
 | zero =>
  intro x2 res hm
  cases hm
 | succ n ih =>
  intro x2 res hm
  refine qR ?_
  refine q_sq ?_
  refine q_vu [] 1 [] [(11, vb (decide (x2 < 2)))] [] [] ?_
  refine q_sq ?_
  refine q_cn (decide (x2 < 2)) (fun b3 => ?_) (fun b3 => ?_)
  ·replace hm := qC b3 hm
   refine q_sk ?_
   refine q_sq ?_
   refine q_bk 1 ?_
   refine q_sq ?_
   obtain ⟨g4, hm⟩ := qL hm
   refine q_vu [qd 0 (Dir.none) (inb_of g4)] 1 [11] [(4, vp 1 0)] [] [(1, bx 26 [ci (([a1.X.A, a1.X.B, a1.Y.A, a1.Y.B] : List Int).getD (x2.toNat * 2 + 0) 0), ci (([a1.X.A, a1.X.B, a1.Y.A, a1.Y.B] : List Int).getD (x2.toNat * 2 + 1) 0)])] ?_
   refine q_jn (ι := Bool) (fun p => EN a1 x2 p) (fun p => wP x2 (zN a1 n) p = some res) ?_ ?_
   ·rintro x7 hm
    show H _ (EN a1 x2 x7) _ _
    refine q_cn x7 (fun b8 => ?_) (fun b8 => ?_)
    ·replace hm := qC b8 hm
     refine q_sq ?_
     refine q_vn [] 2 ⟨[(2, vb false)], []⟩ ?_
     obtain rfl := Option.some.inj hm
     refine q_rt ?_
     refine qY false ?_
     exact q_rm
    ·replace hm := qB b8 hm
     refine q_sk ?_
     refine q_vu [] 2 [10, 27] [(10, vi (w64 (x2 + 1)))] [] [] ?_
     exact q_hl (TE a1 (w64 (x2 + 1))) (ih (w64 (x2 + 1)) _ hm)
   ·rcases Bool.eq_false_or_eq_true (decide ((([a1.X.A, a1.X.B, a1.Y.A, a1.Y.B] : List Int).getD (x2.toNat * 2 + 0) 0) < (-600))) with b5 | b5
    ·replace hm := qC b5 hm
     refine q_vu [qf 3 b5] 2 [4] [(27, vb true)] [1] [] ?_
     exact q_J (true) hm
    ·replace hm := qB b5 hm
     rcases Bool.eq_false_or_eq_true (decide ((([a1.X.A, a1.X.B, a1.Y.A, a1.Y.B] : List Int).getD (x2.toNat * 2 + 1) 0) > 600)) with b6 | b6
     ·replace hm := qC b6 hm
      refine q_vu [qf 3 b5, qf 8 b6] 2 [4] [(27, vb true)] [1] [] ?_
      exact q_J (true) hm
     ·replace hm := qB b6 hm
      refine q_vu [qf 3 b5, qf 8 b6] 2 [4] [(27, vb (decide ((([a1.X.A, a1.X.B, a1.Y.A, a1.Y.B] : List Int).getD (x2.toNat * 2 + 0) 0) ≥ (([a1.X.A, a1.X.B, a1.Y.A, a1.Y.B] : List Int).getD (x2.toNat * 2 + 1) 0))))] [1] [] ?_
      exact q_J (decide ((([a1.X.A, a1.X.B, a1.Y.A, a1.Y.B] : List Int).getD (x2.toNat * 2 + 0) 0) ≥ (([a1.X.A, a1.X.B, a1.Y.A, a1.Y.B] : List Int).getD (x2.toNat * 2 + 1) 0))) hm
  ·replace hm := qB b3 hm
   refine q_ex 0 ?_
   obtain rfl := Option.some.inj hm
   exact wJ () (by kernel_rfl) (by kernel_rfl)
theorem OK (a1 : Rect) (r : Bool) (hm : WU a1 = some r) : CtX Tryz.prog globs 100 0 0 [.agg (qE a1)] [] (NZ r) (FK r) := by
 unfold WU at hm
 refine q_E Tryz.f100 29 fun E => ?_
 refine q_sq ?_
 refine q_vn [] 0 ⟨[(1, vp 0 0)], [(0, bx 28 (qE a1))]⟩ ?_
 refine q_sq ?_
 refine q_sq ?_
 refine q_vn [] 1 ⟨[(9, va (qE a1)), (10, vi 0)], []⟩ ?_
 obtain ⟨u11, h10, hm⟩ := qD hm
 refine zM (nd Tryz.f100 52) 0 (by kernel_rfl) FUEL (fun o => HM) (fun v st => RetQ Tryz.prog Tryz.f100 (NZ v) (FK v) .ret st) u11 (q_hl (TE a1 0) (qDj E a1 FUEL 0 u11 h10)) ?_ ?_
 ·rintro v12 rfl st hr
  obtain rfl := Option.some.inj hm
  exact hr
 ·rintro o9 rfl
  replace hm : _ = some r := hm
  refine q_sq ?_
  refine q_vn [] 1 ⟨[(2, vb true)], []⟩ ?_
  obtain rfl := Option.some.inj hm
  refine q_rt ?_
  exact q_rm
set_option maxRecDepth 100000
def qGQ (r : Pattern × Int) : V := vc (.fn 102 [.bptr 0 0 0, .bptr 1 0 0])
def qGZ (r : Pattern × Int) : List (Nat × (Nat × O)) := [(0, bx 31 (qG r.1)), (1, bx 3 [ci r.2])]
theorem PF (a1 : Pattern) (a2 : Int) (r : Pattern × Int) (hm : yG a1 a2 = some r) : CtX Tryz.prog globs 63 0 0 [.agg (qG a1), .one (ci a2)] [] (qGQ r) (qGZ r) := by
 unfold yG at hm
 refine q_E Tryz.f63 6 fun E => ?_
 refine q_sq ?_
 refine q_vn [] 0 ⟨[(2, vp 0 0), (3, vp 1 0)], [(0, bx 31 (qG a1)), (1, bx 3 [ci a2])]⟩ ?_
 refine q_sq ?_
 refine q_vu [] 2 [2, 3] [(4, vc (.fn 102 [.bptr 0 0 0, .bptr 1 0 0]))] [] [] ?_
 obtain rfl := Option.some.inj hm
 refine q_rt ?_
 exact q_rm
open Go.Proofs
set_option maxHeartbeats 4000000
set_option maxRecDepth 100000
def qHS (r : Bool) : V := vb r
def qHm (r : Bool) : List (Nat × (Nat × O)) := []
def OD (x3 : Bool) : St :=
 ⟨[(2, vb x3)], []⟩
theorem ZQ (a1 : Int) (r : Bool) (hm : jB a1 = some r) : CtX Tryz.prog globs 81 0 0 [.one (ci a1)] [] (qHS r) (qHm r) := by
 unfold jB at hm
 refine q_E Tryz.f81 9 fun E => ?_
 refine q_sq ?_
 refine q_vn [] 0 ⟨[(0, vi a1)], []⟩ ?_
 refine q_jn (ι := Bool) (fun p => OD p) (fun p => TV p = some r) ?_ ?_
 ·rintro x3 hm
  show H _ (OD x3) _ _
  obtain rfl := Option.some.inj hm
  refine q_rt ?_
  exact q_rm
 ·rcases Bool.eq_false_or_eq_true (a1 == 2) with b2 | b2
  ·replace hm := qC b2 hm
   refine q_vn [qf 2 b2] 0 ⟨[(2, vb true)], []⟩ ?_
   exact q_J (true) hm
  ·replace hm := qB b2 hm
   refine q_vn [qf 2 b2] 0 ⟨[(2, vb (a1 == 3))], []⟩ ?_
   exact q_J (a1 == 3) hm
def qIe (r : Span) : V := va (e_Span r)
def qHq (r : Span) : List (Nat × (Nat × O)) := []
theorem qAM (a1 : Rect) (a2 : Int) (r : Span) (hm : XT a1 a2 = some r) : CtX Tryz.prog globs 120 0 0 [.agg (qE a1), .one (ci a2)] [] (qIe r) (qHq r) := by
 unfold XT at hm
 refine q_E Tryz.f120 11 fun E => ?_
 refine q_sq ?_
 refine q_vn [] 0 ⟨[(1, vi a2), (2, vp 0 0), (4, vp 1 0)], [(0, bx 28 (qE a1)), (1, bx 26 [ci 0, ci 0])]⟩ ?_
 refine q_sq ?_
 refine q_sq ?_
 refine q_vu [] 2 [1] [(6, vb (a2 == 2))] [] [] ?_
 refine q_cn (a2 == 2) (fun b3 => ?_) (fun b3 => ?_)
 ·replace hm := qC b3 hm
  refine q_sq ?_
  refine q_vn [] 2 ⟨[(4, vp 1 0)], [(1, bx 26 (e_Span a1.X))]⟩ ?_
  obtain rfl := Option.some.inj hm
  refine q_rt ?_
  exact q_rm
 ·replace hm := qB b3 hm
  refine q_sk ?_
  refine q_sq ?_
  refine q_vn [] 2 ⟨[(4, vp 1 0)], [(1, bx 26 (e_Span a1.Y))]⟩ ?_
  obtain rfl := Option.some.inj hm
  refine q_rt ?_
  exact q_rm
set_option maxRecDepth 100000
def qEh (r : Int) : V := vi r
def qEf (r : Int) : List (Nat × (Nat × O)) := []
def FZ : St :=
 ⟨[], []⟩
def LG (x15 : Bool) : St :=
 ⟨[(46, vb x15)], []⟩
def FV (a1 : Node) (a2 : Pattern_place) (x6 : Bool) : St :=
 ⟨[(2, vp 0 0), (3, vp 1 0), (23, vb x6)], [(0, bx 65 (qJ a1)), (1, bx 123 (e_Pattern_place a2))]⟩
theorem SO (a1 : Node) (a2 : Pattern_place) (r : Int) (hm : ZB a1 a2 = some r) : CtX Tryz.prog globs 101 0 0 [.agg (qJ a1), .agg (e_Pattern_place a2)] [] (qEh r) (qEf r) := by
 unfold ZB at hm
 refine q_E Tryz.f101 47 fun E => ?_
 refine q_sq ?_
 refine q_vn [] 0 ⟨[(2, vp 0 0), (3, vp 1 0)], [(0, bx 65 (qJ a1)), (1, bx 123 (e_Pattern_place a2))]⟩ ?_
 refine q_sq ?_
 refine q_jn (ι := Bool) (fun p => FV a1 a2 p) (fun p => wS a1 a2 p = some r) ?_ ?_
 ·rintro x6 hm
  show H _ (FV a1 a2 x6) _ _
  refine q_cn x6 (fun b7 => ?_) (fun b7 => ?_)
  ·replace hm := qC b7 hm
   refine q_sq ?_
   refine q_vn [] 2 ⟨[(4, vi 10)], []⟩ ?_
   obtain rfl := Option.some.inj hm
   refine q_rt ?_
   exact q_rm
  ·replace hm := qB b7 hm
   refine q_sk ?_
   refine q_sq ?_
   refine q_sq ?_
   refine q_vu [] 2 [23] [(26, vb (decide (a2.level > 64)))] [] [] ?_
   refine q_cn (decide (a2.level > 64)) (fun b8 => ?_) (fun b8 => ?_)
   ·replace hm := qC b8 hm
    refine q_sq ?_
    refine q_vn [] 2 ⟨[(4, vi 28)], []⟩ ?_
    obtain rfl := Option.some.inj hm
    refine q_rt ?_
    exact q_rm
   ·replace hm := qB b8 hm
    refine q_sk ?_
    refine q_jn (ι := Unit) (fun p => FZ) (fun p => QR = some r) ?_ ?_
    ·rintro _ hm
     show H _ (FZ) _ _
     refine q_sq ?_
     refine q_vn [] 3 ⟨[(4, vi 0)], []⟩ ?_
     obtain rfl := Option.some.inj hm
     refine q_rt ?_
     exact q_rm
    ·refine q_sq ?_
     obtain ⟨v9, h10, hm⟩ := qD hm
     refine q_vu [qc 2 [28] 2 (ZQ a1.Kind v9 h10)] 2 [26] [(29, vb v9)] [] [] ?_
     refine q_cn v9 (fun b11 => ?_) (fun b11 => ?_)
     ·replace hm := qC b11 hm
      refine q_sq ?_
      obtain ⟨v12, h13, hm⟩ := qD hm
      refine q_vu [qc 4 [31, 33] 2 (qAM a2.rect a1.Kind v12 h13)] 2 [3, 29] [(5, vp 2 0)] [1] [(2, bx 26 (e_Span v12))] ?_
      refine q_jn (ι := Bool) (fun p => LG p) (fun p => JJ p = some r) ?_ ?_
      ·rintro x15 hm
       show H _ (LG x15) _ _
       refine q_cn x15 (fun b16 => ?_) (fun b16 => ?_)
       ·replace hm := qC b16 hm
        refine q_sq ?_
        refine q_vn [] 3 ⟨[(4, vi 20)], []⟩ ?_
        obtain rfl := Option.some.inj hm
        refine q_rt ?_
        exact q_rm
       ·replace hm := qB b16 hm
        refine q_sk ?_
        exact q_J () hm
      ·rcases Bool.eq_false_or_eq_true (decide (a1.At ≤ v12.A)) with b14 | b14
       ·replace hm := qC b14 hm
        refine q_vn [qf 5 b14] 3 ⟨[(46, vb true)], []⟩ ?_
        exact q_J (true) hm
       ·replace hm := qB b14 hm
        refine q_vn [qf 5 b14] 3 ⟨[(46, vb (decide (a1.At ≥ v12.B)))], []⟩ ?_
        exact q_J (decide (a1.At ≥ v12.B)) hm
     ·replace hm := qB b11 hm
      refine q_sk ?_
      exact q_J () hm
 ·rcases Bool.eq_false_or_eq_true (decide (a1.Kind < 0)) with b3 | b3
  ·replace hm := qC b3 hm
   refine q_vu [qf 3 b3] 2 [] [(23, vb true)] [] [] ?_
   exact q_J (true) hm
  ·replace hm := qB b3 hm
   rcases Bool.eq_false_or_eq_true (decide (a1.Kind > 3)) with b4 | b4
   ·replace hm := qC b4 hm
    refine q_vu [qf 3 b3, qf 8 b4] 2 [] [(23, vb true)] [] [] ?_
    exact q_J (true) hm
   ·replace hm := qB b4 hm
    rcases Bool.eq_false_or_eq_true (a1.Kind == 0) with b5 | b5
    ·replace hm := qC b5 hm
     refine q_vu [qf 3 b3, qf 8 b4, qf 12 b5] 2 [] [(23, vb (a1.At != 0))] [] [] ?_
     exact q_J (a1.At != 0) hm
    ·replace hm := qB b5 hm
     refine q_vu [qf 3 b3, qf 8 b4, qf 12 b5] 2 [] [(23, vb false)] [] [] ?_
     exact q_J (false) hm
open Go.Proofs
set_option maxHeartbeats 4000000
set_option maxRecDepth 100000
def qAn (a1 : Rect) (a2 : Int) (a3 : List Product) (r : Int) : V := vi r
def pattern_Check_1_o (a1 : Rect) (a2 : Int) (a3 : List Product) (r : Int) : List (Nat × (Nat × O)) := [(0, bx 24 [tl qA default a3])]
def HX (a3 : List Product) (x18 : Bool) : St :=
 ⟨[(49, vb x18)], [(0, bx 24 [tl qA default a3])]⟩
def ED (a1 : Rect) (a2 : Int) (a3 : List Product) (x5 : Bool) : St :=
 ⟨[(1, vi a2), (2, vp 0 0), (3, vp 1 0), (17, vb x5)], [(0, bx 24 [tl qA default a3]), (1, bx 28 (qE a1))]⟩
theorem qEn (a1 : Rect) (a2 : Int) (a3 : List Product) (r : Int) (hm : KR a1 a2 a3 = some r) : CtX Tryz.prog globs 98 1 1 [.agg (qE a1), .one (ci a2), .one (.bptr 0 0 0)] [(0, bx 24 [tl qA default a3])] (qAn a1 a2 a3 r) (pattern_Check_1_o a1 a2 a3 r) := by
 unfold KR at hm
 refine q_E Tryz.f98 50 fun E => ?_
 refine q_sq ?_
 refine q_vn [] 1 ⟨[(1, vi a2), (2, vp 0 0), (3, vp 1 0)], [(0, bx 24 [tl qA default a3]), (1, bx 28 (qE a1))]⟩ ?_
 refine q_sq ?_
 refine q_jn (ι := Bool) (fun p => ED a1 a2 a3 p) (fun p => yY a1 a2 a3 p = some r) ?_ ?_
 ·rintro x5 hm
  show H _ (ED a1 a2 a3 x5) _ _
  refine q_cn x5 (fun b6 => ?_) (fun b6 => ?_)
  ·replace hm := qC b6 hm
   refine q_sq ?_
   refine q_vu [] 2 [1, 2, 3, 17] [(5, vi 8)] [1] [] ?_
   obtain rfl := Option.some.inj hm
   refine q_rt ?_
   exact q_rm
  ·replace hm := qB b6 hm
   refine q_sk ?_
   refine q_sq ?_
   obtain ⟨g7, hm⟩ := qL hm
   obtain ⟨v8, h9, hm⟩ := qD hm
   refine q_vu [qd 2 (Dir.none) (inb_of g7), qc 4 [22] 2 (MU (a3.getD a2.toNat default) v8 h9)] 2 [1, 2, 17] [(6, vi v8.1), (7, vi v8.2)] [] [] ?_
   refine q_sq ?_
   obtain ⟨v10, h11, hm⟩ := qD hm
   obtain ⟨v12, h13, hm⟩ := qD hm
   refine q_du [qc 2 [27] 2 (UZ a1.X v10 h11), qc 5 [30] 2 (UZ a1.Y v12 h13)] [0, 1, 3, 0, 8, 31, 63, 127] 2 [3] [(8, vi v10), (9, vi v12)] [1] [] ?_
   refine q_sq ?_
   refine q_jn (ι := Bool) (fun p => HX a3 p) (fun p => jQ p = some r) ?_ ?_
   ·rintro x18 hm
    show H _ (HX a3 x18) _ _
    refine q_cn x18 (fun b19 => ?_) (fun b19 => ?_)
    ·replace hm := qC b19 hm
     refine q_sq ?_
     refine q_vu [] 2 [49] [(5, vi 20)] [] [] ?_
     obtain rfl := Option.some.inj hm
     refine q_rt ?_
     exact q_rm
    ·replace hm := qB b19 hm
     refine q_sk ?_
     refine q_sq ?_
     refine q_vu [] 2 [49] [(5, vi 0)] [] [] ?_
     obtain rfl := Option.some.inj hm
     refine q_rt ?_
     exact q_rm
   ·rcases Bool.eq_false_or_eq_true (v10 != v8.1) with b14 | b14
    ·replace hm := qC b14 hm
     rcases Bool.eq_false_or_eq_true (v10 != v8.2) with b15 | b15
     ·replace hm := qC b15 hm
      refine q_vu [qf 3 b14, qf 12 b15] 2 [6, 7, 8, 9] [(49, vb true)] [] [] ?_
      exact q_J (true) hm
     ·replace hm := qB b15 hm
      refine q_vu [qf 3 b14, qf 12 b15] 2 [6, 7, 8, 9] [(49, vb (v12 != v8.1))] [] [] ?_
      exact q_J (v12 != v8.1) hm
    ·replace hm := qB b14 hm
     rcases Bool.eq_false_or_eq_true (v12 != v8.2) with b16 | b16
     ·replace hm := qC b16 hm
      rcases Bool.eq_false_or_eq_true (v10 != v8.2) with b17 | b17
      ·replace hm := qC b17 hm
       refine q_vu [qf 3 b14, qf 8 b16, qf 12 b17] 2 [6, 7, 8, 9] [(49, vb true)] [] [] ?_
       exact q_J (true) hm
      ·replace hm := qB b17 hm
       refine q_vu [qf 3 b14, qf 8 b16, qf 12 b17] 2 [6, 7, 8, 9] [(49, vb (v12 != v8.1))] [] [] ?_
       exact q_J (v12 != v8.1) hm
     ·replace hm := qB b16 hm
      refine q_vu [qf 3 b14, qf 8 b16] 2 [6, 7, 8, 9] [(49, vb false)] [] [] ?_
      exact q_J (false) hm
 ·rcases Bool.eq_false_or_eq_true (decide (a2 < 0)) with b4 | b4
  ·replace hm := qC b4 hm
   refine q_vu [qf 2 b4] 2 [] [(17, vb true)] [] [] ?_
   exact q_J (true) hm
  ·replace hm := qB b4 hm
   refine q_vu [qf 2 b4] 2 [] [(17, vb (decide (a2 ≥ ((a3.length : Nat) : Int))))] [] [] ?_
   exact q_J (decide (a2 ≥ ((a3.length : Nat) : Int))) hm
end Saw
end Go.SL
