/- Poly's plain mathematics, part 20: an edge that goes down spans a height, too. -/
import Derived.Test.YtcppgjcniljkcaaDoorPMath19
set_option linter.unusedVariables false
set_option linter.unusedSimpArgs false
namespace Go.SL
namespace Saw

theorem span_dn {H : List Point} (hc : Cvx H) {y : Int} {a b : Point} (ha : a ∈ H) (hb : b ∈ H) (h1 : a.Y ≤ y) (h2 : y ≤ b.Y) : ∃ j, j < H.length ∧ spD (Ep H j) (Eq' H j) y := by
  refine Classical.byContradiction fun hno => ?_
  have no : ∀ j, j < H.length → ¬ spD (Ep H j) (Eq' H j) y := fun j hj hs => hno ⟨j, hj, hs⟩
  by_cases hhi : ∃ p ∈ H, y < p.Y
  · obtain ⟨p, hp, hpy⟩ := hhi
    obtain ⟨i, hi, e⟩ := mem_ix hp
    have := cyc_all (P := fun x => y < (Ep H x).Y) hi (by rw [e]; exact hpy) (fun x hx hx' => by
      have h3 : ¬ ((Eq' H x).Y < (Ep H x).Y ∧ (Eq' H x).Y ≤ y ∧ y ≤ (Ep H x).Y) := no x hx
      have h4 : y < (Ep H x).Y := hx'
      show y < (Eq' H x).Y
      omega)
    obtain ⟨k, hk, e'⟩ := mem_ix ha
    have := this k hk
    simp only [e'] at this
    omega
  · have hall : ∀ p ∈ H, p.Y ≤ y := fun p hp => by
      rcases Int.lt_or_le y p.Y with h | h
      · exact absurd ⟨p, hp, h⟩ hhi
      · exact h
    have hby : b.Y = y := by have := hall b hb; omega
    obtain ⟨i, hi, e⟩ := mem_ix hb
    have := cyc_all (P := fun x => (Ep H x).Y = y) hi (by rw [e]; exact hby) (fun x hx hx' => by
      have h3 : ¬ ((Eq' H x).Y < (Ep H x).Y ∧ (Eq' H x).Y ≤ y ∧ y ≤ (Ep H x).Y) := no x hx
      have h4 : (Eq' H x).Y ≤ y := hall (Eq' H x) (getD_mem' (Nat.mod_lt _ (by omega)))
      have h5 : (Ep H x).Y = y := hx'
      show (Eq' H x).Y = y
      omega)
    refine not_flat hc y (fun p hp => ?_)
    obtain ⟨k, hk, e'⟩ := mem_ix hp
    rw [← e']; exact this k hk
end Saw
end Go.SL
