/- Plain mathematics that all seats use: lists by their places; quarters. -/
import Derived.Test.YtcppgjcniljkcaaDoorMBase
set_option linter.unusedVariables false
set_option linter.unusedSimpArgs false
namespace Go.SL

theorem ext_getD {α : Type} [Inhabited α] {l t : List α} (h : l.length = t.length) (hj : ∀ j, j < l.length → l.getD j default = t.getD j default) : l = t := by
  apply List.ext_getElem h
  intro i h1 h2
  have := hj i h1
  rwa [List.getD_eq_getElem?_getD, List.getD_eq_getElem?_getD, List.getElem?_eq_getElem h1, List.getElem?_eq_getElem h2] at this
theorem getD_set_eq {α : Type} [Inhabited α] {l : List α} {x : Nat} (v : α) (h : x < l.length) : (l.set x v).getD x default = v := by
  rw [List.getD_eq_getElem?_getD, List.getElem?_set_self h]; rfl
theorem getD_set_ne {α : Type} [Inhabited α] {l : List α} {x j : Nat} (v : α) (h : x ≠ j) : (l.set x v).getD j default = l.getD j default := by
  rw [List.getD_eq_getElem?_getD, List.getElem?_set_ne h, ← List.getD_eq_getElem?_getD]
theorem getD_map {α β : Type} [Inhabited α] [Inhabited β] (f : α → β) (l : List α) {j : Nat} (h : j < l.length) : (l.map f).getD j default = f (l.getD j default) := by
  rw [List.getD_eq_getElem?_getD, List.getD_eq_getElem?_getD, List.getElem?_map, List.getElem?_eq_getElem h]; rfl

theorem quarter_ex (r : Int) : ∃ q : Nat, q < 4 ∧ Int.tmod (w64 (Int.tmod r 4 + 4)) 4 = (q : Int) := by
  have h1 := Int.tmod_lt_of_pos r (show (0 : Int) < 4 by decide)
  have h2 : -4 < Int.tmod r 4 := by
    rcases Int.le_total 0 r with h | h
    · have := Int.tmod_nonneg 4 h; omega
    · have := Int.tmod_nonneg 4 (show 0 ≤ -r by omega)
      have h3 := Int.tmod_lt_of_pos (-r) (show (0 : Int) < 4 by decide)
      rw [Int.neg_tmod] at this h3
      omega
  rw [w64_id (by omega) (by omega)]
  obtain ⟨n, hn⟩ := Int.eq_ofNat_of_zero_le (show 0 ≤ Int.tmod r 4 + 4 by omega)
  rw [hn]
  exact ⟨n % 4, Nat.mod_lt _ (by decide), rfl⟩


theorem mkOk_t {n b : Nat} (h : n * b ≤ 140737488355328) (hn : n ≤ 9223372036854775807) : mkOk ((n : Nat) : Int) b = true := by
  unfold mkOk
  exact decide_eq_true ⟨Int.natCast_nonneg n, by rw [← Int.natCast_mul, Nat.mul_comm]; exact Int.ofNat_le.2 h, Int.ofNat_le.2 hn⟩
end Go.SL
