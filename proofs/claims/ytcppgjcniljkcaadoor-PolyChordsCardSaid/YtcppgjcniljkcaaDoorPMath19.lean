/- Poly's plain mathematics, part 19: edges that span a height. -/
import Derived.Test.YtcppgjcniljkcaaDoorPMath18
set_option linter.unusedVariables false
set_option linter.unusedSimpArgs false
namespace Go.SL
namespace Saw

theorem cyc_all {n : Nat} {P : Nat → Prop} {i : Nat} (hi : i < n) (h0 : P i) (hs : ∀ x, x < n → P x → P ((x + 1) % n)) : ∀ x, x < n → P x := by
  have step : ∀ k, P ((i + k) % n) := by
    intro k
    induction k with
    | zero => rw [Nat.add_zero, Nat.mod_eq_of_lt hi]; exact h0
    | succ k ih =>
      have := hs _ (Nat.mod_lt _ (by omega)) ih
      rw [Nat.mod_add_mod] at this
      exact this
  intro x hx
  by_cases h : i ≤ x
  · have := step (x - i)
    rw [show i + (x - i) = x by omega, Nat.mod_eq_of_lt hx] at this
    exact this
  · have := step (n - i + x)
    rw [show i + (n - i + x) = n + x by omega, Nat.add_mod_left, Nat.mod_eq_of_lt hx] at this
    exact this
structure Cvx (H : List Point) : Prop where
  n3 : 3 ≤ H.length
  rg : ∀ p ∈ H, rng p
  lf : ∀ x, x < H.length → ∀ p ∈ H, 0 ≤ cross (Ep H x) (Eq' H x) p
  tn : ∀ x, x < H.length → 0 < cross (Ep H x) (Eq' H x) (Ep H ((x + 2) % H.length))
theorem mem_ix {H : List Point} {p : Point} (h : p ∈ H) : ∃ x, x < H.length ∧ Ep H x = p := by
  obtain ⟨x, hx, e⟩ := List.mem_iff_getElem.1 h
  exact ⟨x, hx, by rw [Ep, getD_el' hx]; exact e⟩
theorem not_flat {H : List Point} (hc : Cvx H) (c : Int) : ¬ ∀ p ∈ H, p.Y = c := by
  intro h
  have hn := hc.n3
  have t := hc.tn 0 (by omega)
  have y0 := h (Ep H 0) (getD_mem' (by omega))
  have y1 := h (Eq' H 0) (getD_mem' (Nat.mod_lt _ (by omega)))
  have y2 := h (Ep H ((0 + 2) % H.length)) (getD_mem' (Nat.mod_lt _ (by omega)))
  unfold cross at t
  rw [y0, y1, y2] at t
  simp at t
/-- A height between those of two corners is spanned by an edge that goes up. -/
theorem span_up {H : List Point} (hc : Cvx H) {y : Int} {a b : Point} (ha : a ∈ H) (hb : b ∈ H) (h1 : a.Y ≤ y) (h2 : y ≤ b.Y) : ∃ j, j < H.length ∧ spU (Ep H j) (Eq' H j) y := by
  refine Classical.byContradiction fun hno => ?_
  have no : ∀ j, j < H.length → ¬ spU (Ep H j) (Eq' H j) y := fun j hj hs => hno ⟨j, hj, hs⟩
  by_cases hlow : ∃ p ∈ H, p.Y < y
  · obtain ⟨p, hp, hpy⟩ := hlow
    obtain ⟨i, hi, e⟩ := mem_ix hp
    have := cyc_all (P := fun x => (Ep H x).Y < y) hi (by rw [e]; exact hpy) (fun x hx hx' => by
      have h3 : ¬ ((Ep H x).Y < (Eq' H x).Y ∧ (Ep H x).Y ≤ y ∧ y ≤ (Eq' H x).Y) := no x hx
      have h4 : (Ep H x).Y < y := hx'
      show (Eq' H x).Y < y
      omega)
    obtain ⟨k, hk, e'⟩ := mem_ix hb
    have := this k hk
    simp only [e'] at this
    omega
  · have hall : ∀ p ∈ H, y ≤ p.Y := fun p hp => by
      rcases Int.lt_or_le p.Y y with h | h
      · exact absurd ⟨p, hp, h⟩ hlow
      · exact h
    have hay : a.Y = y := by have := hall a ha; omega
    obtain ⟨i, hi, e⟩ := mem_ix ha
    have := cyc_all (P := fun x => (Ep H x).Y = y) hi (by rw [e]; exact hay) (fun x hx hx' => by
      have h3 : ¬ ((Ep H x).Y < (Eq' H x).Y ∧ (Ep H x).Y ≤ y ∧ y ≤ (Eq' H x).Y) := no x hx
      have h4 : y ≤ (Eq' H x).Y := hall (Eq' H x) (getD_mem' (Nat.mod_lt _ (by omega)))
      have h5 : (Ep H x).Y = y := hx'
      show (Eq' H x).Y = y
      omega)
    refine not_flat hc y (fun p hp => ?_)
    obtain ⟨k, hk, e'⟩ := mem_ix hp
    rw [← e']; exact this k hk
end Saw
end Go.SL
