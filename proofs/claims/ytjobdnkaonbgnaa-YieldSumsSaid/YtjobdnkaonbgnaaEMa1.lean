/- Plain mathematics that all seats use: 64-bit sums that do not wrap, bounds, lists. -/
import Derived.Test.YtjobdnkaonbgnaaYa5
import Derived.Test.YtjobdnkaonbgnaaEMod
set_option linter.unusedVariables false
set_option linter.unusedSimpArgs false
namespace Go.SL
theorem FUEL_eq : FUEL = 4611686018427387904 := by unfold FUEL; rfl
theorem MO {n : Int} (h1 : -9223372036854775808 ≤ n) (h2 : n ≤ 9223372036854775807) : w64 n = n := by
 unfold w64 IntKind.wrap
 simp only [IntKind.bits, IntKind.signed, Bool.true_and]
 split
 ·rename_i h
  have h' : n % 2 ^ 64 ≥ 2 ^ (64 - 1) := of_decide_eq_true h
  omega
 ·rename_i h
  have h' : ¬ n % 2 ^ 64 ≥ 2 ^ (64 - 1) := fun hh => h (decide_eq_true hh)
  omega
end Go.SL

namespace Go.SL
end Go.SL

namespace Go.SL
/-! ### Loops that look for something -/
/-! ### Loops that add up -/
end Go.SL

namespace Go.SL
end Go.SL

namespace Go.SL
end Go.SL

namespace Go.SL
namespace Saw
def bad61 (n : Int) : Bool := decide (n < 0) || decide (n > 2305843009213693952)
def badV (n : Int) : Bool := decide (n < -2305843009213693952) || decide (n > 2305843009213693952)
theorem ZZ {α : Type} (a b : Bool) (x y : α) : (bif a then x else bif b then x else y) = bif a || b then x else y := by cases a <;> rfl
theorem bad61_f {n : Int} : bad61 n = false ↔ 0 ≤ n ∧ n ≤ 2305843009213693952 := by
 unfold bad61; rw [Bool.or_eq_false_iff, decide_eq_false_iff_not, decide_eq_false_iff_not]; omega
theorem CU (a : Yield) (n : Nat) : qV a (n + 1) 0 = (bif bad61 a.Log then some (.inl false) else qV a n 1)
  ∧ qV a (n + 1) 1 = (bif bad61 a.Boards then some (.inl false) else qV a n 2)
  ∧ qV a (n + 1) 2 = (bif bad61 a.Chips then some (.inl false) else qV a n 3)
  ∧ qV a (n + 1) 3 = (bif bad61 a.Dust then some (.inl false) else qV a n 4)
  ∧ qV a (n + 1) 4 = some (.inr ()) := by
 unfold bad61
 rw [← ZZ, ← ZZ, ← ZZ, ← ZZ]
 exact ⟨by kernel_rfl, by kernel_rfl, by kernel_rfl, by kernel_rfl, by kernel_rfl⟩
def badY (a : Yield) : Bool := bad61 a.Log || (bad61 a.Boards || (bad61 a.Chips || bad61 a.Dust))
def bal (a : Yield) : Bool := !badY a && (a.Log == a.Boards + a.Chips + a.Dust)
theorem fuel5 : ∃ k, FUEL = k + 12 := ⟨4611686018427387892, by rw [FUEL_eq]⟩
theorem qCA {a : Yield} : badY a = false ↔ (0 ≤ a.Log ∧ a.Log ≤ 2305843009213693952) ∧ (0 ≤ a.Boards ∧ a.Boards ≤ 2305843009213693952) ∧ (0 ≤ a.Chips ∧ a.Chips ≤ 2305843009213693952) ∧ (0 ≤ a.Dust ∧ a.Dust ≤ 2305843009213693952) := by
 unfold badY; simp only [Bool.or_eq_false_iff, bad61_f]
theorem IR (a : Yield) : zL a = some (bal a) := by
 obtain ⟨k, hk⟩ := fuel5
 unfold zL
 rw [hk, (CU a _).1, (CU a _).2.1, (CU a _).2.2.1, (CU a _).2.2.2.1, (CU a _).2.2.2.2]
 cases h : badY a with
 | true =>
  unfold bal; rw [h]
  unfold badY at h
  cases h1 : bad61 a.Log
  ·rw [h1, Bool.false_or] at h
   cases h2 : bad61 a.Boards
   ·rw [h2, Bool.false_or] at h
    cases h3 : bad61 a.Chips
    ·rw [h3, Bool.false_or] at h; rw [h]; rfl
    ·rfl
   ·rfl
  ·rfl
 | false =>
  have hb := qCA.1 h
  have e : w64 (w64 (a.Boards + a.Chips) + a.Dust) = a.Boards + a.Chips + a.Dust := by
   rw [MO (n := a.Boards + a.Chips) (by omega) (by omega), MO (by omega) (by omega)]
  unfold bal; rw [h, e]
  unfold badY at h
  simp only [Bool.or_eq_false_iff] at h
  rw [h.1, h.2.1, h.2.2.1, h.2.2.2]
  rfl
theorem bal_t {a : Yield} : bal a = true ↔ badY a = false ∧ a.Log = a.Boards + a.Chips + a.Dust := by
 unfold bal; simp
theorem EF (a b : Yield) (n : Nat) (y : Yield) : qR a b 0 (n + 1) 0 y = (bif bad61 a.Log then some (.inl (⟨0, 0, 0, 0, 0⟩, 9)) else qR a b 0 n 1 y)
  ∧ qR a b 0 (n + 1) 1 y = (bif bad61 a.Boards then some (.inl (⟨0, 0, 0, 0, 0⟩, 9)) else qR a b 0 n 2 y)
  ∧ qR a b 0 (n + 1) 2 y = (bif bad61 a.Chips then some (.inl (⟨0, 0, 0, 0, 0⟩, 9)) else qR a b 0 n 3 y)
  ∧ qR a b 0 (n + 1) 3 y = (bif bad61 a.Dust then some (.inl (⟨0, 0, 0, 0, 0⟩, 9)) else qR a b 0 n 4 y)
  ∧ qR a b 0 (n + 1) 4 y = some (.inr y) := by
 unfold bad61
 rw [← ZZ, ← ZZ, ← ZZ, ← ZZ]
 exact ⟨by kernel_rfl, by kernel_rfl, by kernel_rfl, by kernel_rfl, by kernel_rfl⟩
theorem SQ (a b : Yield) (n : Nat) (y : Yield) : qR a b 1 (n + 1) 0 y = (bif bad61 b.Log then some (.inl (⟨0, 0, 0, 0, 0⟩, 9)) else qR a b 1 n 1 y)
  ∧ qR a b 1 (n + 1) 1 y = (bif bad61 b.Boards then some (.inl (⟨0, 0, 0, 0, 0⟩, 9)) else qR a b 1 n 2 y)
  ∧ qR a b 1 (n + 1) 2 y = (bif bad61 b.Chips then some (.inl (⟨0, 0, 0, 0, 0⟩, 9)) else qR a b 1 n 3 y)
  ∧ qR a b 1 (n + 1) 3 y = (bif bad61 b.Dust then some (.inl (⟨0, 0, 0, 0, 0⟩, 9)) else qR a b 1 n 4 y)
  ∧ qR a b 1 (n + 1) 4 y = some (.inr y) := by
 unfold bad61
 rw [← ZZ, ← ZZ, ← ZZ, ← ZZ]
 exact ⟨by kernel_rfl, by kernel_rfl, by kernel_rfl, by kernel_rfl, by kernel_rfl⟩
theorem qCN {α : Type} (a : Yield) (x y : α) : (bif bad61 a.Log then x else bif bad61 a.Boards then x else bif bad61 a.Chips then x else bif bad61 a.Dust then x else y) = bif badY a then x else y := by
 unfold badY; cases bad61 a.Log <;> cases bad61 a.Boards <;> cases bad61 a.Chips <;> cases bad61 a.Dust <;> rfl
theorem qEf (a b : Yield) (y : Yield) : qR a b 0 FUEL 0 y = (bif badY a then some (.inl (⟨0, 0, 0, 0, 0⟩, 9)) else some (.inr y)) ∧ qR a b 1 FUEL 0 y = (bif badY b then some (.inl (⟨0, 0, 0, 0, 0⟩, 9)) else some (.inr y)) := by
 obtain ⟨k, hk⟩ := fuel5
 rw [hk, (EF a b _ y).1, (EF a b _ y).2.1, (EF a b _ y).2.2.1, (EF a b _ y).2.2.2.1, (EF a b _ y).2.2.2.2, qCN]
 rw [(SQ a b _ y).1, (SQ a b _ y).2.1, (SQ a b _ y).2.2.1, (SQ a b _ y).2.2.2.1, (SQ a b _ y).2.2.2.2, qCN]
 exact ⟨rfl, rfl⟩
def badA (a : Yield) : Bool := badY a || badV a.Value
def sumY (a b : Yield) : Yield := ⟨w64 (a.Log + b.Log), w64 (a.Boards + b.Boards), w64 (a.Chips + b.Chips), w64 (a.Dust + b.Dust), w64 (a.Value + b.Value)⟩
theorem qCx (a b : Yield) (n : Nat) (y : Yield) : zA a b (n + 1) 0 y = (bif badA a then some (.inl (⟨0, 0, 0, 0, 0⟩, 9)) else zA a b n 1 y)
  ∧ zA a b (n + 1) 1 y = (bif badA b then some (.inl (⟨0, 0, 0, 0, 0⟩, 9)) else zA a b n 2 y)
  ∧ zA a b (n + 1) 2 y = some (.inr y) := by
 refine ⟨?_, ?_, by kernel_rfl⟩
 ·have e : zA a b (n + 1) 0 y = (qR a b 0 FUEL 0 y).bind fun u17 => Sum.elim (fun v18 => some (Sum.inl v18)) (fun o15 => bif decide (a.Value < -2305843009213693952) then yE 0 (zA a b n) o15 true else yE 0 (zA a b n) o15 (decide (a.Value > 2305843009213693952))) u17 := by kernel_rfl
  rw [e, (qEf a b y).1]
  unfold badA
  cases badY a
  ·simp only [cond_false, Option.bind_some, Sum.elim_inr, Bool.false_or]
   unfold badV
   cases decide (a.Value < -2305843009213693952) <;> cases decide (a.Value > 2305843009213693952) <;> rfl
  ·rfl
 ·have e : zA a b (n + 1) 1 y = (qR a b 1 FUEL 0 y).bind fun u17 => Sum.elim (fun v18 => some (Sum.inl v18)) (fun o15 => bif decide (b.Value < -2305843009213693952) then yE 1 (zA a b n) o15 true else yE 1 (zA a b n) o15 (decide (b.Value > 2305843009213693952))) u17 := by kernel_rfl
  rw [e, (qEf a b y).2]
  unfold badA
  cases badY b
  ·simp only [cond_false, Option.bind_some, Sum.elim_inr, Bool.false_or]
   unfold badV
   cases decide (b.Value < -2305843009213693952) <;> cases decide (b.Value > 2305843009213693952) <;> rfl
  ·rfl
def addR (a b : Yield) : Yield × Int := bif badA a || badA b then (⟨0, 0, 0, 0, 0⟩, 9) else (sumY a b, 0)
theorem Add_eq (a b : Yield) : PT a b = some (addR a b) := by
 obtain ⟨k, hk⟩ := fuel5
 unfold PT addR
 rw [hk, (qCx a b _ _).1, (qCx a b _ _).2.1, (qCx a b _ _).2.2]
 cases badA a <;> cases badA b <;> rfl
theorem SM : KB = some true := by kernel_rfl
theorem qD8 (a b : Yield) : addR a b = addR b a := by
 unfold addR sumY
 rw [Bool.or_comm, Int.add_comm a.Log, Int.add_comm a.Boards, Int.add_comm a.Chips, Int.add_comm a.Dust, Int.add_comm a.Value]
theorem beqY (y : Yield) : ((y.Log == y.Log) && ((y.Boards == y.Boards) && ((y.Chips == y.Chips) && ((y.Dust == y.Dust) && ((y.Value == y.Value) && true))))) = true := by simp
theorem qBn (a b : Yield) {w w' : Prop} (_ : w) (_ : w') : WY a b = some true := by
 have hk : ∀ x, zC a b x true = some true := fun x => by unfold zC; rw [cond_true, SM]; rfl
 unfold WY
 simp only [Add_eq, qD8 b a, Option.bind_some, beqY, Bool.not_true, cond_false, bne_self_eq_false]
 unfold addR
 cases h : badA a || badA b with
 | true =>
  simp only [cond_true]
  unfold zK
  exact hk (⟨0, 0, 0, 0, 0⟩, 9)
 | false =>
  simp only [cond_false]
  unfold zK
  have e1 : ((0 : Int) != 0) = false := rfl
  simp only [e1, cond_false, IR, Option.bind_some]
  cases h1 : bal a with
  | false => exact hk (sumY a b, 0)
  | true =>
   cases h2 : bal b with
   | false => exact hk (sumY a b, 0)
   | true =>
    simp only [Bool.not_true, cond_false]
    by_cases c1 : a.Log > 1152921504606846976
    ·rw [decide_eq_true c1]; exact hk (sumY a b, 0)
    ·by_cases c2 : b.Log > 1152921504606846976
     ·rw [decide_eq_true c2, decide_eq_false c1]; exact hk (sumY a b, 0)
     ·rw [decide_eq_false c2, decide_eq_false c1]
      rw [bal_t, qCA] at h1 h2
      have hb : bal (sumY a b) = true := by
       rw [bal_t, qCA]
       unfold sumY
       simp only
       rw [MO (n := a.Log + b.Log) (by omega) (by omega), MO (n := a.Boards + b.Boards) (by omega) (by omega), MO (n := a.Chips + b.Chips) (by omega) (by omega), MO (n := a.Dust + b.Dust) (by omega) (by omega)]
       omega
      unfold zC
      simp only [cond_false, IR, Option.bind_some, hb, cond_true]
      have el : ((sumY a b).Log == w64 (a.Log + b.Log)) = true := by unfold sumY; simp
      rw [el, cond_true, SM]
      rfl
end Saw
end Go.SL
