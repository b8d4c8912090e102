/- Yields: products of 128 bits; the recovery of a log's yield. -/
import Derived.Test.YtjobdnkaonbgnaaEMa1
import Derived.Test.YtjobdnkaonbgnaaEMa2
import Derived.Test.YtjobdnkaonbgnaaEMod
set_option linter.unusedVariables false
set_option linter.unusedSimpArgs false
namespace Go.SL.Saw
theorem qD6 {a b : Int} (h : 0 ≤ b) : a.fdiv b = a / b := Int.fdiv_eq_ediv_of_nonneg a h
theorem shr32 (x : Int) : shrI .u64 x 32 = x / 4294967296 := by
 unfold shrI
 rw [show (min (32 : Int).toNat (IntKind.bits .u64)) = 32 from rfl, qD6 (by decide)]
 rfl
theorem qBe {x : Int} (h0 : 0 ≤ x) (h1 : x < 18446744073709551616) : andI .u64 x 4294967295 = x % 4294967296 := by
 obtain ⟨n, rfl⟩ := Int.eq_ofNat_of_zero_le h0
 unfold andI
 rw [XH]
 have e : ((BitVec.ofInt (IntKind.bits .u64) (n : Int) &&& BitVec.ofInt (IntKind.bits .u64) 4294967295).toNat) = n % 4294967296 := by
  show ((BitVec.ofInt 64 (n : Int) &&& BitVec.ofInt 64 4294967295).toNat) = _
  rw [BitVec.toNat_and]
  have e1 : (BitVec.ofInt 64 (n : Int)).toNat = n := by
   rw [BitVec.toNat_ofInt]
   have : ((n : Int) % ((2 ^ 64 : Nat) : Int)).toNat = n := by
    rw [show ((2 ^ 64 : Nat) : Int) = 18446744073709551616 from rfl, Int.emod_eq_of_lt (by omega) h1]; rfl
   exact this
  have e2 : (BitVec.ofInt 64 4294967295).toNat = 2 ^ 32 - 1 := by decide
  rw [e1, e2, Nat.and_two_pow_sub_one_eq_mod]
 rw [e]
 omega
theorem qFI {a b : Int} (ha : 0 ≤ a) (ha' : a < 18446744073709551616) (hb : 0 ≤ b) (hb' : b < 18446744073709551616) : QB a b = some (a * b / 18446744073709551616, a * b % 18446744073709551616) := by
 have a1 : 0 ≤ a / 4294967296 ∧ a / 4294967296 ≤ 4294967295 := by omega
 have a0 : 0 ≤ a % 4294967296 ∧ a % 4294967296 ≤ 4294967295 := by omega
 have b1 : 0 ≤ b / 4294967296 ∧ b / 4294967296 ≤ 4294967295 := by omega
 have b0 : 0 ≤ b % 4294967296 ∧ b % 4294967296 ≤ 4294967295 := by omega
 have m11 := Int.mul_le_mul a1.2 b1.2 b1.1 (by omega)
 have m10 := Int.mul_le_mul a1.2 b0.2 b0.1 (by omega)
 have m01 := Int.mul_le_mul a0.2 b1.2 b1.1 (by omega)
 have m00 := Int.mul_le_mul a0.2 b0.2 b0.1 (by omega)
 have n11 := Int.mul_nonneg a1.1 b1.1
 have n10 := Int.mul_nonneg a1.1 b0.1
 have n01 := Int.mul_nonneg a0.1 b1.1
 have n00 := Int.mul_nonneg a0.1 b0.1
 have ab : a * b = (a / 4294967296 * (b / 4294967296)) * 18446744073709551616 + (a / 4294967296 * (b % 4294967296) + a % 4294967296 * (b / 4294967296)) * 4294967296 + a % 4294967296 * (b % 4294967296) := by
  have ea : a = a / 4294967296 * 4294967296 + a % 4294967296 := by omega
  have eb : b = b / 4294967296 * 4294967296 + b % 4294967296 := by omega
  generalize a / 4294967296 = x1 at *
  generalize a % 4294967296 = x0 at *
  generalize b / 4294967296 = y1 at *
  generalize b % 4294967296 = y0 at *
  subst ea eb
  simp only [Int.add_mul, Int.mul_add]
  have q1 : x1 * 4294967296 * (y1 * 4294967296) = x1 * y1 * 18446744073709551616 := by
   rw [Int.mul_assoc, Int.mul_left_comm 4294967296 y1, ← Int.mul_assoc x1 y1, ← Int.mul_assoc]
   rw [Int.mul_assoc (x1 * y1)]; rfl
  have q2 : x1 * 4294967296 * y0 = x1 * y0 * 4294967296 := by rw [Int.mul_assoc, Int.mul_comm 4294967296 y0, ← Int.mul_assoc]
  have q3 : x0 * (y1 * 4294967296) = x0 * y1 * 4294967296 := by rw [← Int.mul_assoc]
  rw [q1, q2, q3]; omega
 unfold QB
 simp only [shr32, XH]
 have r0 : andI .u64 a 4294967295 = a % 4294967296 := qBe ha ha'
 have r1 : andI .u64 b 4294967295 = b % 4294967296 := qBe hb hb'
 rw [r0, r1]
 rw [qBe (x := (a / 4294967296 * (b % 4294967296) % 18446744073709551616 + a % 4294967296 * (b % 4294967296) % 18446744073709551616 / 4294967296) % 18446744073709551616) (by omega) (by omega)]
 rw [ab]
 generalize a / 4294967296 * (b / 4294967296) = p11 at *
 generalize a / 4294967296 * (b % 4294967296) = p10 at *
 generalize a % 4294967296 * (b / 4294967296) = p01 at *
 generalize a % 4294967296 * (b % 4294967296) = p00 at *
 refine congrArg some (Prod.ext ?_ rfl)
 simp only
 omega
end Go.SL.Saw

namespace Go.SL.Saw
def u64w (n : Int) : Int := IntKind.u64.wrap n
theorem RW {n : Int} (h0 : 0 ≤ n) (h1 : n < 18446744073709551616) : u64w n = n := by unfold u64w; rw [XH]; exact Int.emod_eq_of_lt h0 h1
/-- The loop that corrects a digit. -/
def dL (y1 y0 u : Int) : Nat → Int → Int → Option Int
 | 0, _, _ => none
 | n + 1, q, r =>
  bif (bif decide (q ≥ 4294967296) then true else decide (u64w (q * y0) > u64w (u64w (4294967296 * r) + u))) then
   (bif decide (u64w (r + y1) ≥ 4294967296) then some (u64w (q - 1)) else dL y1 y0 u n (u64w (q - 1)) (u64w (r + y1)))
  else some q
theorem L1_dL (a2 a3 v8 : Int) : ∀ (n : Nat) (q r : Int), zL a2 a3 v8 n q r = dL (shrI .u64 (shlI .u64 a3 (u64w v8)) 32) (andI .u64 (shlI .u64 a3 (u64w v8)) 4294967295) (shrI .u64 (shlI .u64 a2 (u64w v8)) 32) n q r
 | 0, _, _ => rfl
 | n + 1, q, r => by
  unfold zL dL yZ
  rw [L1_dL a2 a3 v8 n]
  cases decide (q ≥ 4294967296) <;> rfl
theorem L3_dL (a2 a3 v8 : Int) : ∀ (n : Nat) (q r : Int), zM a2 a3 v8 n r q = dL (shrI .u64 (shlI .u64 a3 (u64w v8)) 32) (andI .u64 (shlI .u64 a3 (u64w v8)) 4294967295) (andI .u64 (shlI .u64 a2 (u64w v8)) 4294967295) n q r
 | 0, _, _ => rfl
 | n + 1, q, r => by
  unfold zM dL QG
  rw [L3_dL a2 a3 v8 n]
  cases decide (q ≥ 4294967296) <;> rfl
/-- A digit is right. -/
structure DI (y1 y0 u U Q : Int) : Prop where
 hy1 : 2147483648 ≤ y1 ∧ y1 < 4294967296
 hy0 : 0 ≤ y0 ∧ y0 < 4294967296
 hu : 0 ≤ u ∧ u < 4294967296
 U0 : 0 ≤ U
 UY : U < y1 * 4294967296 + y0
 lo : Q * (y1 * 4294967296 + y0) ≤ U * 4294967296 + u
 hi : U * 4294967296 + u < (Q + 1) * (y1 * 4294967296 + y0)
 Q0 : 0 ≤ Q
theorem dL_ok {y1 y0 u U Q : Int} (h : DI y1 y0 u U Q) : ∀ (n : Nat) (q r : Int), q * y1 + r = U → 0 ≤ r → r < 4294967296 → Q ≤ q → q ≤ 4294967297 → q - Q < n → dL y1 y0 u n q r = some Q
 | 0, q, r, _, _, _, h4, _, h6 => by omega
 | n + 1, q, r, h1, h2, h3, h4, h5, h6 => by
  obtain ⟨⟨a1, a2⟩, ⟨b1, b2⟩, ⟨c1, c2⟩, d0, d1, lo, hi, Q0⟩ := h
  have h := (⟨⟨a1, a2⟩, ⟨b1, b2⟩, ⟨c1, c2⟩, d0, d1, lo, hi, Q0⟩ : DI y1 y0 u U Q)
  -- the quotient is below 2^32
  have hQ : Q < 4294967296 := by
   apply Classical.byContradiction
   intro hc
   have hm : 4294967296 * (y1 * 4294967296 + y0) ≤ Q * (y1 * 4294967296 + y0) := Int.mul_le_mul_of_nonneg_right (by omega) (by omega)
   omega
  -- q * Y against N
  have key : ∀ k : Int, k * (y1 * 4294967296 + y0) = k * y1 * 4294967296 + k * y0 := fun k => by rw [Int.mul_add, ← Int.mul_assoc]
  have tst : (bif decide (q ≥ 4294967296) then true else decide (u64w (q * y0) > u64w (u64w (4294967296 * r) + u))) = decide (Q < q) := by
   by_cases c : q ≥ 4294967296
   ·rw [decide_eq_true c, decide_eq_true (show Q < q by omega)]; rfl
   ·rw [decide_eq_false c, cond_false]
    have m1 : 0 ≤ q * y0 := Int.mul_nonneg (by omega) b1
    have m2 : q * y0 ≤ 4294967295 * 4294967295 := Int.mul_le_mul (by omega) (by omega) b1 (by omega)
    rw [RW m1 (by omega), RW (n := 4294967296 * r) (by omega) (by omega), RW (by omega) (by omega)]
    have kq := key q
    have e : (q * y0 > 4294967296 * r + u) ↔ (U * 4294967296 + u < q * (y1 * 4294967296 + y0)) := by
     rw [kq, ← h1, Int.add_mul]; omega
    rw [Bool.eq_iff_iff, decide_eq_true_eq, decide_eq_true_eq, e]
    constructor
    ·intro hh
     apply Classical.byContradiction
     intro hc
     have : q = Q := by omega
     rw [this] at hh; omega
    ·intro hh
     have hm : (Q + 1) * (y1 * 4294967296 + y0) ≤ q * (y1 * 4294967296 + y0) := Int.mul_le_mul_of_nonneg_right (by omega) (by omega)
     omega
  unfold dL
  rw [tst]
  by_cases hc : Q < q
  ·rw [decide_eq_true hc, cond_true, RW (n := r + y1) (by omega) (by omega), RW (n := q - 1) (by omega) (by omega)]
   by_cases hb : r + y1 ≥ 4294967296
   ·rw [decide_eq_true hb, cond_true]
    have hle : (q - 1) * (y1 * 4294967296 + y0) ≤ U * 4294967296 + u := by
     have m1 : (q - 1) * y0 ≤ 4294967296 * 4294967295 := Int.mul_le_mul (by omega) (by omega) b1 (by omega)
     have e1 : (q - 1) * y1 + (r + y1) = U := by rw [← h1, Int.sub_mul]; omega
     rw [key, ← e1, Int.add_mul]; omega
    have : q - 1 = Q := by
     apply Classical.byContradiction
     intro hn
     have hm : (Q + 1) * (y1 * 4294967296 + y0) ≤ (q - 1) * (y1 * 4294967296 + y0) := Int.mul_le_mul_of_nonneg_right (by omega) (by omega)
     omega
    rw [this]
   ·rw [decide_eq_false hb, cond_false]
    exact dL_ok h n (q - 1) (r + y1) (by rw [Int.sub_mul]; omega) (by omega) (by omega) (by omega) (by omega) (by omega)
  ·rw [decide_eq_false hc, cond_false, show q = Q by omega]
/-- One digit: the first guess, and the loop. -/
theorem qDG {y1 y0 u U : Int} (hy1 : 2147483648 ≤ y1 ∧ y1 < 4294967296) (hy0 : 0 ≤ y0 ∧ y0 < 4294967296) (hu : 0 ≤ u ∧ u < 4294967296) (hU : 0 ≤ U) (hUY : U < y1 * 4294967296 + y0) :
  dL y1 y0 u FUEL (u64w (Int.tdiv U y1)) (u64w (U - u64w (u64w (Int.tdiv U y1) * y1))) = some ((U * 4294967296 + u) / (y1 * 4294967296 + y0)) := by
 have hY : 0 < y1 * 4294967296 + y0 := by omega
 have hq0 : 0 ≤ U / y1 := Int.ediv_nonneg hU (by omega)
 have hq1 : U / y1 ≤ 4294967297 := by
  apply Int.le_of_lt_add_one
  apply Int.ediv_lt_of_lt_mul (by omega)
  have : (4294967297 + 1) * y1 = 4294967296 * y1 + 2 * y1 := by omega
  omega
 have hdm := Int.mul_ediv_add_emod U y1
 have hmod := Int.emod_nonneg U (show y1 ≠ 0 by omega)
 have hmod2 := Int.emod_lt_of_pos U (show 0 < y1 by omega)
 have hcm : U / y1 * y1 = y1 * (U / y1) := Int.mul_comm _ _
 have hpn : 0 ≤ U / y1 * y1 := Int.mul_nonneg hq0 (by omega)
 rw [Int.tdiv_eq_ediv_of_nonneg hU, RW hq0 (by omega), RW (n := U / y1 * y1) hpn (by omega), RW (by omega) (by omega)]
 have hN := Int.mul_ediv_add_emod (U * 4294967296 + u) (y1 * 4294967296 + y0)
 have hN0 := Int.emod_nonneg (U * 4294967296 + u) (show y1 * 4294967296 + y0 ≠ 0 by omega)
 have hN1 := Int.emod_lt_of_pos (U * 4294967296 + u) hY
 have hQ0 : 0 ≤ (U * 4294967296 + u) / (y1 * 4294967296 + y0) := Int.ediv_nonneg (by omega) (by omega)
 have hcQ : (U * 4294967296 + u) / (y1 * 4294967296 + y0) * (y1 * 4294967296 + y0) = (y1 * 4294967296 + y0) * ((U * 4294967296 + u) / (y1 * 4294967296 + y0)) := Int.mul_comm _ _
 refine dL_ok (U := U) ⟨hy1, hy0, hu, hU, hUY, by omega, by rw [Int.add_mul]; omega, hQ0⟩ FUEL _ _ (by omega) (by omega) (by omega) ?_ hq1 (by rw [qBQ]; omega)
 -- the guess is not too small
 apply Classical.byContradiction
 intro hc
 have h1 : (U / y1 + 1) * (y1 * 4294967296) ≤ (U * 4294967296 + u) / (y1 * 4294967296 + y0) * (y1 * 4294967296 + y0) := by
  have a : (U / y1 + 1) * (y1 * 4294967296) ≤ (U * 4294967296 + u) / (y1 * 4294967296 + y0) * (y1 * 4294967296) := Int.mul_le_mul_of_nonneg_right (by omega) (by omega)
  have b : (U * 4294967296 + u) / (y1 * 4294967296 + y0) * (y1 * 4294967296) ≤ (U * 4294967296 + u) / (y1 * 4294967296 + y0) * (y1 * 4294967296 + y0) := Int.mul_le_mul_of_nonneg_left (by omega) hQ0
  omega
 have h2 : (U / y1 + 1) * (y1 * 4294967296) = (U / y1 * y1 + y1) * 4294967296 := by rw [← Int.mul_assoc, Int.add_mul, Int.one_mul]
 omega
end Go.SL.Saw

namespace Go.SL.Saw
def T8 (x : Nat) : Nat := if x = 0 then 0 else Nat.log2 x + 1
theorem k3_tab : (List.range 256).all (fun x => zE (x : Int) 0 == some (T8 x : Int)) = true := by kernel_rfl
theorem strAt_b (b : ByteArray) (i : Nat) : 0 ≤ wH b i ∧ wH b i < 256 := by
 unfold wH
 have := (b.data.getD i 0).toNat_lt
 omega
theorem k3_eq {x : Nat} (hx : x < 256) (y : Int) : zE (x : Int) y = some (w64 (y + (T8 x : Int))) := by
 have h0 := List.all_eq_true.1 k3_tab x (List.mem_range.2 hx)
 have h1 : zE (x : Int) 0 = some (T8 x : Int) := by simpa using h0
 unfold zE at h1 ⊢
 generalize (ByteArray.mk _) = tb at *
 cases hi : inb (IntKind.u8.wrap (x : Int)) tb.size with
 | false => rw [hi] at h1; cases h1
 | true =>
  rw [hi, cond_true] at h1
  have h2 := Option.some.inj h1
  have b := strAt_b tb (IntKind.u8.wrap (x : Int)).toNat
  rw [w64_id (n := wH tb (IntKind.u8.wrap (x : Int)).toNat) (by omega) (by omega), Int.zero_add, w64_id (by omega) (by omega)] at h2
  rw [cond_true, w64_id (n := wH tb (IntKind.u8.wrap (x : Int)).toNat) (by omega) (by omega), h2]
theorem T8_le {x : Nat} (h0 : 0 < x) (hx : x < 256) : 1 ≤ T8 x ∧ T8 x ≤ 8 ∧ 2 ^ (T8 x - 1) ≤ x ∧ x < 2 ^ T8 x := by
 unfold T8
 rw [if_neg (by omega)]
 have h1 := Nat.log2_self_le (show x ≠ 0 by omega)
 have h2 := Nat.lt_log2_self (n := x)
 have h3 : Nat.log2 x < 8 := (Nat.log2_lt (by omega)).2 (by omega)
 exact ⟨by omega, by omega, by simpa using h1, h2⟩
theorem IM (x k : Nat) (hk : k ≤ 64) : shrI .u64 (x : Int) (k : Int) = ((x / 2 ^ k : Nat) : Int) := by
 unfold shrI
 rw [show min ((k : Int)).toNat (IntKind.bits .u64) = k by rw [Int.toNat_natCast]; show min k 64 = k; omega, qD6 (by
  have : (0 : Int) < 2 ^ k := Int.pow_pos (by decide)
  omega)]
 rw [Int.natCast_ediv, Int.natCast_pow]
 rfl
/-- The length of a number. -/
theorem qFs {x : Nat} (h0 : 0 < x) (h1 : x < 2 ^ 64) : ∃ L : Nat, QD (x : Int) = some (L : Int) ∧ 1 ≤ L ∧ L ≤ 64 ∧ 2 ^ (L - 1) ≤ x ∧ x < 2 ^ L := by
 have st : ∀ (n x' : Nat), n ≤ 56 → x' = x / 2 ^ n → 0 < x' → x' < 256 → ∃ L : Nat, zE (x' : Int) (n : Int) = some (L : Int) ∧ 1 ≤ L ∧ L ≤ 64 ∧ 2 ^ (L - 1) ≤ x ∧ x < 2 ^ L := by
  intro n x' hn e h2 h3
  obtain ⟨t1, t2, t3, t4⟩ := T8_le h2 h3
  refine ⟨n + T8 x', ?_, by omega, by omega, ?_, ?_⟩
  ·rw [k3_eq h3, w64_id (by omega) (by omega)]; rfl
  ·have hp : 0 < 2 ^ n := Nat.two_pow_pos n
   rw [show n + T8 x' - 1 = (T8 x' - 1) + n by omega, Nat.pow_add]
   have : x' * 2 ^ n ≤ x := by rw [e]; exact Nat.div_mul_le_self x (2 ^ n)
   exact Nat.le_trans (Nat.mul_le_mul_right _ t3) this
  ·rw [show n + T8 x' = T8 x' + n by omega, Nat.pow_add]
   have hp : 0 < 2 ^ n := Nat.two_pow_pos n
   rw [e] at t4
   have := (Nat.div_lt_iff_lt_mul hp).1 t4
   rw [e]; exact this
 have k2 : ∀ (n x' : Nat), n ≤ 48 → x' = x / 2 ^ n → 0 < x' → x' < 65536 → ∃ L : Nat, jN (x' : Int) (n : Int) = some (L : Int) ∧ 1 ≤ L ∧ L ≤ 64 ∧ 2 ^ (L - 1) ≤ x ∧ x < 2 ^ L := by
  intro n x' hn e h2 h3
  unfold jN
  by_cases c : x' ≥ 256
  ·rw [decide_eq_true (by omega), cond_true, show (8 : Int) = ((8 : Nat) : Int) from rfl, IM x' 8 (by omega), w64_id (by omega) (by omega)]
   exact st (n + 8) (x' / 2 ^ 8) (by omega) (by rw [e, Nat.div_div_eq_div_mul, ← Nat.pow_add]) (by omega) (by omega)
  ·rw [decide_eq_false (by omega), cond_false]
   exact st n x' (by omega) e h2 (by omega)
 have k1 : ∀ (n x' : Nat), n ≤ 32 → x' = x / 2 ^ n → 0 < x' → x' < 4294967296 → ∃ L : Nat, jM (x' : Int) (n : Int) = some (L : Int) ∧ 1 ≤ L ∧ L ≤ 64 ∧ 2 ^ (L - 1) ≤ x ∧ x < 2 ^ L := by
  intro n x' hn e h2 h3
  unfold jM
  by_cases c : x' ≥ 65536
  ·rw [decide_eq_true (by omega), cond_true, show (16 : Int) = ((16 : Nat) : Int) from rfl, IM x' 16 (by omega), w64_id (by omega) (by omega)]
   exact k2 (n + 16) (x' / 2 ^ 16) (by omega) (by rw [e, Nat.div_div_eq_div_mul, ← Nat.pow_add]) (by omega) (by omega)
  ·rw [decide_eq_false (by omega), cond_false]
   exact k2 n x' (by omega) e h2 (by omega)
 unfold QD
 by_cases c : x ≥ 4294967296
 ·rw [decide_eq_true (by omega), cond_true, show (32 : Int) = ((32 : Nat) : Int) from rfl, IM x 32 (by omega)]
  exact k1 32 (x / 2 ^ 32) (by omega) rfl (by omega) (by omega)
 ·rw [decide_eq_false (by omega), cond_false]
  exact k1 0 x (by omega) (by simp) h0 (by omega)
theorem qC5 (a : Int) {s : Nat} (hs : s ≤ 63) : shlI .u64 a (s : Int) = (a * 2 ^ s) % 18446744073709551616 := by
 unfold shlI
 rw [show min ((s : Int)).toNat (IntKind.bits .u64) = s by rw [Int.toNat_natCast]; show min s 64 = s; omega, XH]
theorem or_eq {a b : Int} {s : Nat} (ha : 0 ≤ a) (hb : 0 ≤ b) (hbs : b < 2 ^ s) (h : a * 2 ^ s + b < 18446744073709551616) : orI .u64 (a * 2 ^ s) b = a * 2 ^ s + b := by
 obtain ⟨n, rfl⟩ := Int.eq_ofNat_of_zero_le ha
 obtain ⟨m, rfl⟩ := Int.eq_ofNat_of_zero_le hb
 have hm : m < 2 ^ s := by
  have : ((m : Nat) : Int) < ((2 ^ s : Nat) : Int) := by rw [Int.natCast_pow]; exact hbs
  exact Int.ofNat_lt.1 this
 have e : (n : Int) * 2 ^ s = ((n * 2 ^ s : Nat) : Int) := by rw [Int.natCast_mul, Int.natCast_pow]; rfl
 rw [e] at h ⊢
 unfold orI
 rw [XH]
 have b1 : ∀ k : Nat, (k : Int) < 18446744073709551616 → (BitVec.ofInt 64 (k : Int)).toNat = k := by
  intro k hk
  rw [BitVec.toNat_ofInt]
  have : ((k : Int) % ((2 ^ 64 : Nat) : Int)).toNat = k := by
   rw [show ((2 ^ 64 : Nat) : Int) = 18446744073709551616 from rfl, Int.emod_eq_of_lt (by omega) hk]; rfl
  exact this
 have e2 : ((BitVec.ofInt (IntKind.bits .u64) ((n * 2 ^ s : Nat) : Int) ||| BitVec.ofInt (IntKind.bits .u64) (m : Int)).toNat) = n * 2 ^ s + m := by
  show ((BitVec.ofInt 64 ((n * 2 ^ s : Nat) : Int) ||| BitVec.ofInt 64 (m : Int)).toNat) = _
  rw [BitVec.toNat_or, b1 _ (by omega), b1 _ (by omega), Nat.mul_comm, Nat.two_pow_add_eq_or_of_lt hm]
 rw [e2]
 omega
theorem qFk {hi lo y : Int} (h0 : 0 ≤ hi) (h1 : hi < y) (hy : y < 18446744073709551616) (l0 : 0 ≤ lo) (l1 : lo < 18446744073709551616) : ∃ rem, QA hi lo y = some ((hi * 18446744073709551616 + lo) / y, rem) := by
 unfold QA
 have c0 : (y == 0) = false := by rw [beq_eq_false_iff_ne]; omega
 rw [c0, decide_eq_false (by omega)]
 simp only [cond_false]
 by_cases hz : hi = 0
 ·subst hz
  rw [nz_t (by omega), Int.tdiv_eq_ediv_of_nonneg l0, XH]
  simp only [beq_self_eq_true, cond_true, Int.zero_mul, Int.zero_add]
  have b1 : 0 ≤ lo / y := Int.ediv_nonneg l0 (by omega)
  have b2 : lo / y ≤ lo := Int.ediv_le_self y l0
  rw [Int.emod_eq_of_lt b1 (by omega)]
  exact ⟨_, rfl⟩
 ·have cz : (hi == 0) = false := by simpa using hz
  rw [cz, cond_false]
  obtain ⟨yn, rfl⟩ := Int.eq_ofNat_of_zero_le (show 0 ≤ y by omega)
  obtain ⟨L, eL, L1, L2, L3, L4⟩ := qFs (x := yn) (by omega) (by omega)
  unfold wV
  rw [eL]
  simp only [Option.bind_some]
  obtain ⟨s, hs⟩ : ∃ s : Nat, s = 64 - L := ⟨_, rfl⟩
  have hs63 : s ≤ 63 := by omega
  rw [w64_id (n := 64 - (L : Int)) (by omega) (by omega), show (64 : Int) - (L : Int) = (s : Int) by omega]
  have es : IntKind.u64.wrap (s : Int) = (s : Int) := by rw [XH]; omega
  have es2 : IntKind.u64.wrap (64 - (s : Int)) = ((64 - s : Nat) : Int) := by rw [XH]; omega
  rw [L1_dL]
  simp only [L3_dL]
  unfold u64w
  simp only [es, es2]
  have P0 : (0 : Int) < 2 ^ s := Int.pow_pos (by decide)
  have P1 : (0 : Int) < 2 ^ (64 - s) := Int.pow_pos (by decide)
  have PP : (2 : Int) ^ (64 - s) * 2 ^ s = 18446744073709551616 := by rw [← Int.pow_add, show 64 - s + s = 64 by omega]; rfl
  have hYlo : 9223372036854775808 ≤ (yn : Int) * 2 ^ s := by
   have e : 2 ^ 63 ≤ yn * 2 ^ s := by
    have := Nat.mul_le_mul_right (2 ^ s) L3
    rw [← Nat.pow_add, show L - 1 + s = 63 by omega] at this
    exact this
   have e' : ((2 ^ 63 : Nat) : Int) ≤ ((yn * 2 ^ s : Nat) : Int) := Int.ofNat_le.2 e
   rw [Int.natCast_mul, Int.natCast_pow] at e'
   exact e'
  have hYhi : (yn : Int) * 2 ^ s < 18446744073709551616 := by
   have e : yn * 2 ^ s < 2 ^ 64 := by
    have := Nat.mul_lt_mul_of_pos_right L4 (Nat.two_pow_pos s)
    rw [← Nat.pow_add, show L + s = 64 by omega] at this
    exact this
   have e' : ((yn * 2 ^ s : Nat) : Int) < ((2 ^ 64 : Nat) : Int) := Int.ofNat_lt.2 e
   rw [Int.natCast_mul, Int.natCast_pow] at e'
   exact e'
  have hsh : ((lo.toNat : Nat) : Int) = lo := Int.toNat_of_nonneg l0
  have eLo : shrI .u64 lo ((64 - s : Nat) : Int) = lo / 2 ^ (64 - s) := by
   rw [← hsh, IM lo.toNat (64 - s) (by omega), Int.natCast_ediv, Int.natCast_pow]; rfl
  have hq : 0 ≤ lo / 2 ^ (64 - s) := Int.ediv_nonneg l0 (by omega)
  have hq2 : lo / 2 ^ (64 - s) < 2 ^ s := Int.ediv_lt_of_lt_mul P1 (by rw [Int.mul_comm, PP]; exact l1)
  have hhP : hi * 2 ^ s + 2 ^ s ≤ (yn : Int) * 2 ^ s := by
   have := Int.mul_le_mul_of_nonneg_right (show hi + 1 ≤ (yn : Int) by omega) (Int.le_of_lt P0)
   rw [Int.add_mul, Int.one_mul] at this; exact this
  have hh0 : 0 ≤ hi * 2 ^ s := Int.mul_nonneg h0 (Int.le_of_lt P0)
  have eH : shlI .u64 hi (s : Int) = hi * 2 ^ s := by rw [qC5 hi hs63]; exact Int.emod_eq_of_lt hh0 (by omega)
  have eY : shlI .u64 (yn : Int) (s : Int) = (yn : Int) * 2 ^ s := by rw [qC5 _ hs63]; exact Int.emod_eq_of_lt (by omega) hYhi
  have eV : shlI .u64 lo (s : Int) = lo * 2 ^ s % 18446744073709551616 := qC5 lo hs63
  have eO : orI .u64 (hi * 2 ^ s) (lo / 2 ^ (64 - s)) = hi * 2 ^ s + lo / 2 ^ (64 - s) := or_eq h0 hq hq2 (by omega)
  simp only [eH, eY, eV, eLo, eO, shr32]
  have hN : (hi * 18446744073709551616 + lo) * 2 ^ s = (hi * 2 ^ s + lo / 2 ^ (64 - s)) * 18446744073709551616 + lo * 2 ^ s % 18446744073709551616 := by
   have e1 : lo * 2 ^ s / 18446744073709551616 = lo / 2 ^ (64 - s) := by rw [← PP, Int.mul_ediv_mul_of_pos_left _ _ P0]
   have e2 := Int.mul_ediv_add_emod (lo * 2 ^ s) 18446744073709551616
   rw [e1] at e2
   rw [Int.add_mul, Int.mul_right_comm, Int.add_mul]
   omega
  generalize hPs : (2 : Int) ^ s = Ps at *
  generalize hYs : (yn : Int) * Ps = Y at *
  generalize hUs : hi * Ps + lo / 2 ^ (64 - s) = U at *
  generalize hVs : lo * Ps % 18446744073709551616 = V at *
  have hV : 0 ≤ V ∧ V < 18446744073709551616 := by rw [← hVs]; exact ⟨Int.emod_nonneg _ (by decide), Int.emod_lt_of_pos _ (by decide)⟩
  have hU : 0 ≤ U ∧ U < Y := by omega
  rw [qBe (x := Y) (by omega) (by omega), qBe (x := V) hV.1 hV.2]
  have hYd : Y / 4294967296 * 4294967296 + Y % 4294967296 = Y := by omega
  have hn1 : nneg ((s : Nat) : Int) = true := by unfold nneg; simp
  have hn2 : nneg ((64 - s : Nat) : Int) = true := by unfold nneg; simp
  have d1 := qDG (y1 := Y / 4294967296) (y0 := Y % 4294967296) (u := V / 4294967296) (U := U) (by omega) (by omega) (by omega) hU.1 (by omega)
  rw [hYd] at d1
  unfold u64w at d1
  rw [hn1, hn2, nz_t (by omega)]
  simp only [cond_true]
  rw [d1]
  simp only [Option.bind_some]
  have q1n := Int.mul_ediv_add_emod (U * 4294967296 + V / 4294967296) Y
  have q1r := Int.emod_nonneg (U * 4294967296 + V / 4294967296) (show Y ≠ 0 by omega)
  have q1l := Int.emod_lt_of_pos (U * 4294967296 + V / 4294967296) (show 0 < Y by omega)
  have q1p : 0 ≤ (U * 4294967296 + V / 4294967296) / Y := Int.ediv_nonneg (by omega) (by omega)
  have q1b : (U * 4294967296 + V / 4294967296) / Y < 4294967296 := Int.ediv_lt_of_lt_mul (by omega) (by omega)
  generalize hQ1 : (U * 4294967296 + V / 4294967296) / Y = Q1 at *
  generalize hR1 : (U * 4294967296 + V / 4294967296) % Y = R1 at *
  have hcm : Q1 * Y = Y * Q1 := Int.mul_comm _ _
  have eR : IntKind.u64.wrap (IntKind.u64.wrap (IntKind.u64.wrap (U * 4294967296) + V / 4294967296) - IntKind.u64.wrap (Q1 * Y)) = R1 := by
   simp only [XH]; omega
  rw [eR]
  have d2 := qDG (y1 := Y / 4294967296) (y0 := Y % 4294967296) (u := V % 4294967296) (U := R1) (by omega) (by omega) (by omega) q1r (by omega)
  rw [hYd] at d2
  unfold u64w at d2
  rw [d2]
  simp only [Option.bind_some]
  refine ⟨_, congrArg some (Prod.ext ?_ rfl)⟩
  simp only [XH]
  have q0p : 0 ≤ (R1 * 4294967296 + V % 4294967296) / Y := Int.ediv_nonneg (by omega) (by omega)
  have q0b : (R1 * 4294967296 + V % 4294967296) / Y < 4294967296 := Int.ediv_lt_of_lt_mul (by omega) (by omega)
  have fin : (hi * 18446744073709551616 + lo) / (yn : Int) = Q1 * 4294967296 + (R1 * 4294967296 + V % 4294967296) / Y := by
   rw [← Int.mul_ediv_mul_of_pos_left (hi * 18446744073709551616 + lo) (yn : Int) P0, hN, hYs]
   have e : U * 18446744073709551616 + V = (R1 * 4294967296 + V % 4294967296) + Y * (Q1 * 4294967296) := by
    rw [← Int.mul_assoc]; omega
   rw [e, Int.add_mul_ediv_left _ _ (show Y ≠ 0 by omega)]
   omega
  rw [fin]
  omega
end Go.SL.Saw

namespace Go.SL
namespace Saw
theorem qCW : GJ = some true := by kernel_rfl
end Saw
end Go.SL

namespace Go.SL.Saw
theorem qEW {b c : Int} (hb : 0 ≤ b) (hbc : b ≤ c) (hc : 0 < c) (hc' : c ≤ 2305843009213693952) : YV 1000 b c = some (1000 * b / c, 0) := by
 unfold YV QL
 rw [decide_eq_false (by omega), decide_eq_false (show ¬ b < 0 by omega)]
 simp only [XH, cond_false, Option.bind_some]
 rw [show (1000 : Int) % 18446744073709551616 = 1000 from rfl, Int.emod_eq_of_lt hb (by omega), Int.emod_eq_of_lt (show 0 ≤ c by omega) (by omega)]
 rw [show decide ((1000 : Int) < 0) = false from rfl]
 simp only [cond_false, Option.bind_some]
 rw [qFI (by omega) (by omega) hb (by omega)]
 simp only [Option.bind_some]
 have hhi : 1000 * b / 18446744073709551616 < c := by omega
 rw [decide_eq_false (by omega), cond_false]
 obtain ⟨rem, e⟩ := qFk (hi := 1000 * b / 18446744073709551616) (lo := 1000 * b % 18446744073709551616) (y := c) (by omega) hhi (by omega) (by omega) (by omega)
 rw [e]
 have hn : 1000 * b / 18446744073709551616 * 18446744073709551616 + 1000 * b % 18446744073709551616 = 1000 * b := by omega
 rw [hn]
 have hq : 0 ≤ 1000 * b / c := Int.ediv_nonneg (by omega) (by omega)
 have hq2 : 1000 * b / c ≤ 1000 := Int.ediv_le_of_le_mul hc (by omega)
 simp only [Option.bind_some, beq_self_eq_true, cond_true]
 rw [decide_eq_false (by omega), cond_false, w64_id (by omega) (by omega)]
def qCO (y : Yield) : Int := bif bal y && (y.Log != 0) then 1000 * y.Boards / y.Log else 0
theorem qDS (y : Yield) : yC y = some (qCO y) := by
 unfold yC QW qCO
 rw [OW]
 simp only [Option.bind_some]
 cases h : bal y with
 | false => rfl
 | true =>
  simp only [Bool.not_true, cond_false, Bool.true_and]
  by_cases c : y.Log = 0
  ·have c1 : (y.Log == 0) = true := by simpa using c
   have c2 : (y.Log != 0) = false := by simpa using c
   rw [c1, c2]; rfl
  ·have c1 : (y.Log == 0) = false := by simpa using c
   have c2 : (y.Log != 0) = true := by simpa using c
   have h' := bal_t.1 h
   have hy := qCY.1 h'.1
   rw [c1, c2, cond_false, cond_true, qEW hy.2.1.1 (by omega) (by omega) (by omega)]
   rfl
theorem qEt (n : Int) : wG n = some (!bad61 n) := by
 unfold wG PI bad61
 by_cases h1 : n < 0
 ·rw [decide_eq_true h1, decide_eq_false (show ¬ n ≥ 0 by omega)]; rfl
 ·rw [decide_eq_false h1, decide_eq_true (show n ≥ 0 by omega)]
  by_cases h2 : n > 2305843009213693952
  ·rw [decide_eq_true h2, decide_eq_false (show ¬ n ≤ 2305843009213693952 by omega)]; rfl
  ·rw [decide_eq_false h2, decide_eq_true (show n ≤ 2305843009213693952 by omega)]; rfl
theorem qEc (y : Yield) : yG y = some (bal y) := by
 unfold yG zV
 simp only [qEt, Option.bind_some]
 unfold bal badY
 cases h1 : bad61 y.Log with
 | true => rfl
 | false =>
  cases h2 : bad61 y.Boards with
  | true => rfl
  | false =>
   cases h3 : bad61 y.Chips with
   | true => rfl
   | false =>
    cases h4 : bad61 y.Dust with
    | true => rfl
    | false =>
     have b1 := MY.1 h1
     have b2 := MY.1 h2
     have b3 := MY.1 h3
     have b4 := MY.1 h4
     rw [w64_id (n := y.Log - y.Boards) (by omega) (by omega), w64_id (by omega) (by omega)]
     simp only [Bool.not_false, cond_true, Bool.or_self, Bool.true_and]
     congr 1
     rw [Bool.eq_iff_iff, beq_iff_eq, beq_iff_eq]
     omega
theorem qFO (y : Yield) : JD y = some (!badA y) := by
 unfold JD wJ
 simp only [qEt, Option.bind_some]
 unfold badA badY badV
 cases h1 : bad61 y.Log with
 | true => rfl
 | false =>
  cases h2 : bad61 y.Boards with
  | true => rfl
  | false =>
   cases h3 : bad61 y.Chips with
   | true => rfl
   | false =>
    cases h4 : bad61 y.Dust with
    | true => rfl
    | false =>
     by_cases c1 : y.Value < -2305843009213693952
     ·rw [decide_eq_true c1, decide_eq_false (show ¬ y.Value ≥ -2305843009213693952 by omega)]; rfl
     ·rw [decide_eq_false c1, decide_eq_true (show y.Value ≥ -2305843009213693952 by omega)]
      by_cases c2 : y.Value > 2305843009213693952
      ·rw [decide_eq_true c2, decide_eq_false (show ¬ y.Value ≤ 2305843009213693952 by omega)]; rfl
      ·rw [decide_eq_false c2, decide_eq_true (show y.Value ≤ 2305843009213693952 by omega)]; rfl
theorem rAdd_eq (a b : Yield) : DN a b = some (addR a b) := by
 unfold DN TI addR sumY
 simp only [qFO, Option.bind_some, Bool.not_not]
 cases badA a <;> cases badA b <;> rfl
theorem rL3_eq {y : Yield} {rest : Int} (hl : 0 < y.Log ∧ y.Log ≤ 2305843009213693952) (hr : 0 ≤ rest ∧ rest < y.Log) : zC y rest FUEL 0 0 0 = some (10 * rest / y.Log, 10 * rest % y.Log) := by
 have key : ∀ (k i n : Nat) (d s : Int), i + k = 10 → k < n → d * y.Log + s = i * rest → 0 ≤ s → s < y.Log → 0 ≤ d → d ≤ i → zC y rest n d s (i : Int) = some (10 * rest / y.Log, 10 * rest % y.Log) := by
  intro k
  induction k with
  | zero =>
   intro i n d s hi hn h1 h2 h3 _ _
   obtain ⟨n, rfl⟩ : ∃ m, n = m + 1 := ⟨n - 1, by omega⟩
   have : i = 10 := by omega
   subst this
   rw [zC, decide_eq_false (by omega), cond_false]
   have e : 10 * rest = s + y.Log * d := by rw [Int.mul_comm y.Log d]; omega
   rw [e, Int.add_mul_ediv_left _ _ (by omega), Int.add_mul_emod_self_left, Int.ediv_eq_zero_of_lt h2 h3, Int.emod_eq_of_lt h2 h3, Int.zero_add]
  | succ k ih =>
   intro i n d s hi hn h1 h2 h3 h4 h5
   obtain ⟨n, rfl⟩ : ∃ m, n = m + 1 := ⟨n - 1, by omega⟩
   rw [zC, decide_eq_true (by omega), cond_true]
   unfold ZD
   rw [inc_eq (by omega), w64_id (n := y.Log - rest) (by omega) (by omega)]
   have em : ((i + 1 : Nat) : Int) * rest = i * rest + rest := by rw [show ((i + 1 : Nat) : Int) = (i : Int) + 1 by omega, Int.add_mul, Int.one_mul]
   by_cases c : s ≥ y.Log - rest
   ·rw [decide_eq_true c, cond_true, w64_id (n := d + 1) (by omega) (by omega), w64_id (n := s - (y.Log - rest)) (by omega) (by omega)]
    exact ih (i + 1) n (d + 1) (s - (y.Log - rest)) (by omega) (by omega) (by rw [em, Int.add_mul]; omega) (by omega) (by omega) (by omega) (by omega)
   ·rw [decide_eq_false c, cond_false, w64_id (n := s + rest) (by omega) (by omega)]
    exact ih (i + 1) n d (s + rest) (by omega) (by omega) (by rw [em]; omega) (by omega) (by omega) h4 (by omega)
 have := key 10 0 FUEL 0 0 (by omega) (by rw [qBQ]; omega) (by simp) (by omega) (by omega) (by omega) (by omega)
 exact this
theorem qAh {y : Yield} {n rest : Int} (hl : 0 < y.Log ∧ y.Log ≤ 2305843009213693952) (hr : 0 ≤ rest ∧ rest < y.Log) (hn : 0 ≤ n ∧ n ≤ 1000) (f : Nat) (i : Int) (hi : i < 3 ∧ 0 ≤ i) : zS y (f + 1) n rest i = zS y f (10 * n + 10 * rest / y.Log) (10 * rest % y.Log) (i + 1) := by
 rw [zS, decide_eq_true hi.1, cond_true, rL3_eq hl hr]
 simp only [Option.bind_some]
 have h1 : 0 ≤ 10 * rest / y.Log := Int.ediv_nonneg (by omega) (by omega)
 have h2 : 10 * rest / y.Log < 10 := Int.ediv_lt_of_lt_mul hl.1 (by omega)
 rw [w64_id (n := 10 * n) (by omega) (by omega), w64_id (n := 10 * n + _) (by omega) (by omega), w64_id (n := i + 1) (by omega) (by omega)]
theorem CM {B L n r m : Int} (hL : 0 < L) (h : n * L + r = m * B) : (10 * n + 10 * r / L) * L + 10 * r % L = (10 * m) * B := by
 have := Int.mul_ediv_add_emod (10 * r) L
 have e : 10 * r / L * L = L * (10 * r / L) := Int.mul_comm _ _
 rw [Int.add_mul, Int.mul_assoc, Int.mul_assoc 10 m B, ← h, Int.mul_add]
 omega
theorem rRec_eq (y : Yield) : ZT y = some (qCO y) := by
 unfold ZT QY qCO
 rw [qEc]
 simp only [Option.bind_some]
 cases h : bal y with
 | false => rfl
 | true =>
  simp only [Bool.not_true, cond_false, Bool.true_and]
  by_cases c : y.Log = 0
  ·have c1 : (y.Log == 0) = true := by simpa using c
   have c2 : (y.Log != 0) = false := by simpa using c
   rw [c1, c2]; rfl
  ·have c1 : (y.Log == 0) = false := by simpa using c
   have c2 : (y.Log != 0) = true := by simpa using c
   have h' := bal_t.1 h
   have hy := qCY.1 h'.1
   have hl : 0 < y.Log ∧ y.Log ≤ 2305843009213693952 := by omega
   rw [c1, c2, cond_false, cond_true, nz_t c, cond_true, Int.tdiv_eq_ediv_of_nonneg hy.2.1.1, Int.tmod_eq_emod_of_nonneg hy.2.1.1]
   have n0 : 0 ≤ y.Boards / y.Log := Int.ediv_nonneg hy.2.1.1 (by omega)
   have n1 : y.Boards / y.Log ≤ 1 := Int.ediv_le_of_le_mul hl.1 (by omega)
   have r0 := Int.emod_nonneg y.Boards c
   have r1 := Int.emod_lt_of_pos y.Boards hl.1
   have e0 : y.Boards / y.Log * y.Log + y.Boards % y.Log = 1 * y.Boards := by
    have := Int.mul_ediv_add_emod y.Boards y.Log
    rw [Int.mul_comm (y.Boards / y.Log)]; omega
   rw [w64_id (n := y.Boards / y.Log) (by omega) (by omega)]
   generalize y.Boards / y.Log = a0 at *
   generalize y.Boards % y.Log = b0 at *
   obtain ⟨k, hk⟩ := qCR
   have dq : ∀ {b : Int}, 0 ≤ b → b < y.Log → 0 ≤ 10 * b / y.Log ∧ 10 * b / y.Log < 10 ∧ 0 ≤ 10 * b % y.Log ∧ 10 * b % y.Log < y.Log := fun hb hb' => ⟨Int.ediv_nonneg (by omega) (by omega), Int.ediv_lt_of_lt_mul hl.1 (by omega), Int.emod_nonneg _ c, Int.emod_lt_of_pos _ hl.1⟩
   have d0 := dq r0 r1
   rw [hk, qAh hl ⟨r0, r1⟩ (by omega) _ 0 (by omega)]
   have e1 := CM hl.1 e0
   generalize 10 * b0 / y.Log = q1 at *
   generalize 10 * b0 % y.Log = b1 at *
   have d1 := dq d0.2.2.1 d0.2.2.2
   rw [qAh hl ⟨d0.2.2.1, d0.2.2.2⟩ (by omega) _ (0 + 1) (by omega)]
   have e2 := CM hl.1 e1
   generalize 10 * b1 / y.Log = q2 at *
   generalize 10 * b1 % y.Log = b2 at *
   have d2 := dq d1.2.2.1 d1.2.2.2
   rw [qAh hl ⟨d1.2.2.1, d1.2.2.2⟩ (by omega) _ (0 + 1 + 1) (by omega)]
   have e3 := CM hl.1 e2
   generalize 10 * b2 / y.Log = q3 at *
   generalize 10 * b2 % y.Log = b3 at *
   rw [zS, decide_eq_false (by omega), cond_false]
   simp only [Option.bind_some]
   have e4 : 1000 * y.Boards = b3 + y.Log * (10 * (10 * (10 * a0 + q1) + q2) + q3) := by
    rw [Int.mul_comm y.Log]; omega
   rw [e4, Int.add_mul_ediv_left _ _ c, Int.ediv_eq_zero_of_lt d2.2.2.1 d2.2.2.2, Int.zero_add]
theorem qBG (a b : Yield) {w w' : Prop} (_ : w) (_ : w') : JU a b = some true := by
 unfold JU
 simp only [Add_eq, rAdd_eq, OW, qEc, qDS, rRec_eq, Option.bind_some, beq_self_eq_true, Bool.and_self, cond_true, qCW]
 rfl
end Go.SL.Saw
