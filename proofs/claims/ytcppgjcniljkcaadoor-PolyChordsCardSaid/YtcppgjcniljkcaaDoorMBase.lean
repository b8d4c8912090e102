/- Plain mathematics that all seats use: 64-bit sums that do not wrap, bounds, lists. -/
import Derived.Test.YtcppgjcniljkcaaDoorYa5
set_option linter.unusedVariables false
set_option linter.unusedSimpArgs false
namespace Go.SL

theorem FUEL_eq : FUEL = 4611686018427387904 := by unfold FUEL; rfl
theorem w64_id {n : Int} (h1 : -9223372036854775808 ≤ n) (h2 : n ≤ 9223372036854775807) : w64 n = n := by
  unfold w64 IntKind.wrap
  simp only [IntKind.bits, IntKind.signed, Bool.true_and]
  split
  · rename_i h
    have h' : n % 2 ^ 64 ≥ 2 ^ (64 - 1) := of_decide_eq_true h
    omega
  · rename_i h
    have h' : ¬ n % 2 ^ 64 ≥ 2 ^ (64 - 1) := fun hh => h (decide_eq_true hh)
    omega
theorem inb_t {i : Int} {n : Nat} (h0 : 0 ≤ i) (h1 : i < (n : Int)) : inb i n = true := by unfold inb; exact decide_eq_true ⟨h0, h1⟩
theorem nz_t {b : Int} (h : b ≠ 0) : nz b = true := by unfold nz; exact decide_eq_true h
theorem room_t {n b : Nat} (h : n * b ≤ 140737488355328) : room n b = true := by unfold room; exact decide_eq_true h
theorem lt_t {a b : Int} (h : a < b) : decide (a < b) = true := decide_eq_true h
theorem lt_f {a b : Int} (h : ¬ a < b) : decide (a < b) = false := decide_eq_false h
theorem inc_eq {x : Nat} (h : x < 4611686018427387904) : w64 ((x : Int) + 1) = ((x + 1 : Nat) : Int) := by rw [w64_id (by omega) (by omega)]; omega
theorem drop_getD {α : Type} [Inhabited α] (l : List α) (x : Nat) (h : x < l.length) : l.drop x = l.getD x default :: l.drop (x + 1) := by
  rw [List.drop_eq_getElem_cons h, List.getD_eq_getElem?_getD, List.getElem?_eq_getElem h]
  rfl
theorem getD_mem' {α : Type} [Inhabited α] {l : List α} {x : Nat} (h : x < l.length) : l.getD x default ∈ l := by
  rw [List.getD_eq_getElem?_getD, List.getElem?_eq_getElem h]; exact List.getElem_mem h
/-- The next corner's number. -/
theorem nxt_eq {n x : Nat} (hn : 0 < n) (hx : x < 4611686018427387904) : Int.tmod (w64 ((x : Int) + 1)) (n : Int) = (((x + 1) % n : Nat) : Int) := by
  rw [inc_eq hx]
  rfl
theorem mul_bound {a b m n : Int} (h1 : -m ≤ a) (h2 : a ≤ m) (h3 : -n ≤ b) (h4 : b ≤ n) (hm : 0 ≤ m) (hn : 0 ≤ n) : -(m * n) ≤ a * b ∧ a * b ≤ m * n := by
  constructor
  · have e1 := Int.mul_nonneg (show 0 ≤ m - a by omega) (show 0 ≤ n + b by omega)
    have e2 := Int.mul_nonneg (show 0 ≤ m + a by omega) (show 0 ≤ n - b by omega)
    have e3 := Int.mul_nonneg (show 0 ≤ m + a by omega) (show 0 ≤ n + b by omega)
    rcases Int.le_total 0 b with hb | hb
    · have := Int.mul_nonneg (show 0 ≤ m + a by omega) hb
      have h5 := Int.mul_nonneg hm (show 0 ≤ n - b by omega)
      simp only [Int.add_mul, Int.mul_add, Int.sub_mul, Int.mul_sub] at *
      omega
    · have := Int.mul_nonneg (show 0 ≤ m - a by omega) (show 0 ≤ -b by omega)
      have h5 := Int.mul_nonneg hm (show 0 ≤ n + b by omega)
      simp only [Int.add_mul, Int.mul_add, Int.sub_mul, Int.mul_sub, Int.mul_neg] at *
      omega
  · rcases Int.le_total 0 b with hb | hb
    · have := Int.mul_nonneg (show 0 ≤ m - a by omega) hb
      have h5 := Int.mul_nonneg hm (show 0 ≤ n - b by omega)
      simp only [Int.add_mul, Int.mul_add, Int.sub_mul, Int.mul_sub] at *
      omega
    · have := Int.mul_nonneg (show 0 ≤ m + a by omega) (show 0 ≤ -b by omega)
      have h5 := Int.mul_nonneg hm (show 0 ≤ n + b by omega)
      simp only [Int.add_mul, Int.mul_add, Int.sub_mul, Int.mul_sub, Int.mul_neg] at *
      omega
end Go.SL
