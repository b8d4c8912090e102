/- Plain mathematics that all seats use: 64-bit sums that do not wrap, bounds, lists. -/
import Derived.Test.YtjobdnkaonbgnaaYa5
import Derived.Test.YtjobdnkaonbgnaaEMod
set_option linter.unusedVariables false
set_option linter.unusedSimpArgs false
namespace Go.SL
theorem qBQ : FUEL = 4611686018427387904 := by unfold FUEL; rfl
theorem w64_id {n : Int} (h1 : -9223372036854775808 ≤ n) (h2 : n ≤ 9223372036854775807) : w64 n = n := by
 unfold w64 IntKind.wrap
 simp only [IntKind.bits, IntKind.signed, Bool.true_and]
 split
 ·rename_i h
  have h' : n % 2 ^ 64 ≥ 2 ^ (64 - 1) := of_decide_eq_true h
  omega
 ·rename_i h
  have h' : ¬ n % 2 ^ 64 ≥ 2 ^ (64 - 1) := fun hh => h (decide_eq_true hh)
  omega
theorem nz_t {b : Int} (h : b ≠ 0) : nz b = true := by unfold nz; exact decide_eq_true h
theorem inc_eq {x : Nat} (h : x < 4611686018427387904) : w64 ((x : Int) + 1) = ((x + 1 : Nat) : Int) := by rw [w64_id (by omega) (by omega)]; omega
end Go.SL

namespace Go.SL
end Go.SL

namespace Go.SL
/-! ### Loops that look for something -/
/-! ### Loops that add up -/
end Go.SL

namespace Go.SL
end Go.SL

namespace Go.SL
end Go.SL

namespace Go.SL
namespace Saw
def bad61 (n : Int) : Bool := decide (n < 0) || decide (n > 2305843009213693952)
def badV (n : Int) : Bool := decide (n < -2305843009213693952) || decide (n > 2305843009213693952)
theorem WW {α : Type} (a b : Bool) (x y : α) : (bif a then x else bif b then x else y) = bif a || b then x else y := by cases a <;> rfl
theorem MY {n : Int} : bad61 n = false ↔ 0 ≤ n ∧ n ≤ 2305843009213693952 := by
 unfold bad61; rw [Bool.or_eq_false_iff, decide_eq_false_iff_not, decide_eq_false_iff_not]; omega
theorem qAI (a : Yield) (n : Nat) : qW a (n + 1) 0 = (bif bad61 a.Log then some (.inl false) else qW a n 1)
  ∧ qW a (n + 1) 1 = (bif bad61 a.Boards then some (.inl false) else qW a n 2)
  ∧ qW a (n + 1) 2 = (bif bad61 a.Chips then some (.inl false) else qW a n 3)
  ∧ qW a (n + 1) 3 = (bif bad61 a.Dust then some (.inl false) else qW a n 4)
  ∧ qW a (n + 1) 4 = some (.inr ()) := by
 unfold bad61
 rw [← WW, ← WW, ← WW, ← WW]
 exact ⟨by kernel_rfl, by kernel_rfl, by kernel_rfl, by kernel_rfl, by kernel_rfl⟩
def badY (a : Yield) : Bool := bad61 a.Log || (bad61 a.Boards || (bad61 a.Chips || bad61 a.Dust))
def bal (a : Yield) : Bool := !badY a && (a.Log == a.Boards + a.Chips + a.Dust)
theorem qCR : ∃ k, FUEL = k + 12 := ⟨4611686018427387892, by rw [qBQ]⟩
theorem qCY {a : Yield} : badY a = false ↔ (0 ≤ a.Log ∧ a.Log ≤ 2305843009213693952) ∧ (0 ≤ a.Boards ∧ a.Boards ≤ 2305843009213693952) ∧ (0 ≤ a.Chips ∧ a.Chips ≤ 2305843009213693952) ∧ (0 ≤ a.Dust ∧ a.Dust ≤ 2305843009213693952) := by
 unfold badY; simp only [Bool.or_eq_false_iff, MY]
theorem OW (a : Yield) : jG a = some (bal a) := by
 obtain ⟨k, hk⟩ := qCR
 unfold jG
 rw [hk, (qAI a _).1, (qAI a _).2.1, (qAI a _).2.2.1, (qAI a _).2.2.2.1, (qAI a _).2.2.2.2]
 cases h : badY a with
 | true =>
  unfold bal; rw [h]
  unfold badY at h
  cases h1 : bad61 a.Log
  ·rw [h1, Bool.false_or] at h
   cases h2 : bad61 a.Boards
   ·rw [h2, Bool.false_or] at h
    cases h3 : bad61 a.Chips
    ·rw [h3, Bool.false_or] at h; rw [h]; rfl
    ·rfl
   ·rfl
  ·rfl
 | false =>
  have hb := qCY.1 h
  have e : w64 (w64 (a.Boards + a.Chips) + a.Dust) = a.Boards + a.Chips + a.Dust := by
   rw [w64_id (n := a.Boards + a.Chips) (by omega) (by omega), w64_id (by omega) (by omega)]
  unfold bal; rw [h, e]
  unfold badY at h
  simp only [Bool.or_eq_false_iff] at h
  rw [h.1, h.2.1, h.2.2.1, h.2.2.2]
  rfl
theorem bal_t {a : Yield} : bal a = true ↔ badY a = false ∧ a.Log = a.Boards + a.Chips + a.Dust := by
 unfold bal; simp
theorem AR (a b : Yield) (n : Nat) (y : Yield) : qR a b 0 (n + 1) 0 y = (bif bad61 a.Log then some (.inl (⟨0, 0, 0, 0, 0⟩, 9)) else qR a b 0 n 1 y)
  ∧ qR a b 0 (n + 1) 1 y = (bif bad61 a.Boards then some (.inl (⟨0, 0, 0, 0, 0⟩, 9)) else qR a b 0 n 2 y)
  ∧ qR a b 0 (n + 1) 2 y = (bif bad61 a.Chips then some (.inl (⟨0, 0, 0, 0, 0⟩, 9)) else qR a b 0 n 3 y)
  ∧ qR a b 0 (n + 1) 3 y = (bif bad61 a.Dust then some (.inl (⟨0, 0, 0, 0, 0⟩, 9)) else qR a b 0 n 4 y)
  ∧ qR a b 0 (n + 1) 4 y = some (.inr y) := by
 unfold bad61
 rw [← WW, ← WW, ← WW, ← WW]
 exact ⟨by kernel_rfl, by kernel_rfl, by kernel_rfl, by kernel_rfl, by kernel_rfl⟩
theorem AH (a b : Yield) (n : Nat) (y : Yield) : qR a b 1 (n + 1) 0 y = (bif bad61 b.Log then some (.inl (⟨0, 0, 0, 0, 0⟩, 9)) else qR a b 1 n 1 y)
  ∧ qR a b 1 (n + 1) 1 y = (bif bad61 b.Boards then some (.inl (⟨0, 0, 0, 0, 0⟩, 9)) else qR a b 1 n 2 y)
  ∧ qR a b 1 (n + 1) 2 y = (bif bad61 b.Chips then some (.inl (⟨0, 0, 0, 0, 0⟩, 9)) else qR a b 1 n 3 y)
  ∧ qR a b 1 (n + 1) 3 y = (bif bad61 b.Dust then some (.inl (⟨0, 0, 0, 0, 0⟩, 9)) else qR a b 1 n 4 y)
  ∧ qR a b 1 (n + 1) 4 y = some (.inr y) := by
 unfold bad61
 rw [← WW, ← WW, ← WW, ← WW]
 exact ⟨by kernel_rfl, by kernel_rfl, by kernel_rfl, by kernel_rfl, by kernel_rfl⟩
theorem qDx {α : Type} (a : Yield) (x y : α) : (bif bad61 a.Log then x else bif bad61 a.Boards then x else bif bad61 a.Chips then x else bif bad61 a.Dust then x else y) = bif badY a then x else y := by
 unfold badY; cases bad61 a.Log <;> cases bad61 a.Boards <;> cases bad61 a.Chips <;> cases bad61 a.Dust <;> rfl
theorem qEU (a b : Yield) (y : Yield) : qR a b 0 FUEL 0 y = (bif badY a then some (.inl (⟨0, 0, 0, 0, 0⟩, 9)) else some (.inr y)) ∧ qR a b 1 FUEL 0 y = (bif badY b then some (.inl (⟨0, 0, 0, 0, 0⟩, 9)) else some (.inr y)) := by
 obtain ⟨k, hk⟩ := qCR
 rw [hk, (AR a b _ y).1, (AR a b _ y).2.1, (AR a b _ y).2.2.1, (AR a b _ y).2.2.2.1, (AR a b _ y).2.2.2.2, qDx]
 rw [(AH a b _ y).1, (AH a b _ y).2.1, (AH a b _ y).2.2.1, (AH a b _ y).2.2.2.1, (AH a b _ y).2.2.2.2, qDx]
 exact ⟨rfl, rfl⟩
def badA (a : Yield) : Bool := badY a || badV a.Value
def sumY (a b : Yield) : Yield := ⟨w64 (a.Log + b.Log), w64 (a.Boards + b.Boards), w64 (a.Chips + b.Chips), w64 (a.Dust + b.Dust), w64 (a.Value + b.Value)⟩
theorem qDB (a b : Yield) (n : Nat) (y : Yield) : zA a b (n + 1) 0 y = (bif badA a then some (.inl (⟨0, 0, 0, 0, 0⟩, 9)) else zA a b n 1 y)
  ∧ zA a b (n + 1) 1 y = (bif badA b then some (.inl (⟨0, 0, 0, 0, 0⟩, 9)) else zA a b n 2 y)
  ∧ zA a b (n + 1) 2 y = some (.inr y) := by
 refine ⟨?_, ?_, by kernel_rfl⟩
 ·have e : zA a b (n + 1) 0 y = (qR a b 0 FUEL 0 y).bind fun u17 => Sum.elim (fun v18 => some (Sum.inl v18)) (fun o15 => bif decide (a.Value < -2305843009213693952) then yJ 0 (zA a b n) o15 true else yJ 0 (zA a b n) o15 (decide (a.Value > 2305843009213693952))) u17 := by kernel_rfl
  rw [e, (qEU a b y).1]
  unfold badA
  cases badY a
  ·simp only [cond_false, Option.bind_some, Sum.elim_inr, Bool.false_or]
   unfold badV
   cases decide (a.Value < -2305843009213693952) <;> cases decide (a.Value > 2305843009213693952) <;> rfl
  ·rfl
 ·have e : zA a b (n + 1) 1 y = (qR a b 1 FUEL 0 y).bind fun u17 => Sum.elim (fun v18 => some (Sum.inl v18)) (fun o15 => bif decide (b.Value < -2305843009213693952) then yJ 1 (zA a b n) o15 true else yJ 1 (zA a b n) o15 (decide (b.Value > 2305843009213693952))) u17 := by kernel_rfl
  rw [e, (qEU a b y).2]
  unfold badA
  cases badY b
  ·simp only [cond_false, Option.bind_some, Sum.elim_inr, Bool.false_or]
   unfold badV
   cases decide (b.Value < -2305843009213693952) <;> cases decide (b.Value > 2305843009213693952) <;> rfl
  ·rfl
def addR (a b : Yield) : Yield × Int := bif badA a || badA b then (⟨0, 0, 0, 0, 0⟩, 9) else (sumY a b, 0)
theorem Add_eq (a b : Yield) : DE a b = some (addR a b) := by
 obtain ⟨k, hk⟩ := qCR
 unfold DE addR
 rw [hk, (qDB a b _ _).1, (qDB a b _ _).2.1, (qDB a b _ _).2.2]
 cases badA a <;> cases badA b <;> rfl
end Saw
end Go.SL
