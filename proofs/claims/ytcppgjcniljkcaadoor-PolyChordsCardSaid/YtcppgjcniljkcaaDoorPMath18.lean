/- Poly's plain mathematics, part 18: what the reference's loop gives. -/
import Derived.Test.YtcppgjcniljkcaaDoorPMath17
set_option linter.unusedVariables false
set_option linter.unusedSimpArgs false
namespace Go.SL
namespace Saw

abbrev Ep (H : List Point) (j : Nat) : Point := H.getD j default
abbrev Eq' (H : List Point) (j : Nat) : Point := H.getD ((j + 1) % H.length) default
/-- A horizontal edge that has height y on its right. -/
def bad (p q : Point) (y : Int) : Prop := ¬ p.Y < q.Y ∧ ¬ q.Y < p.Y ∧ (q.X - p.X) * (y - p.Y) < 0
theorem imin_le {a b X : Int} : X ≤ imin a b ↔ X ≤ a ∧ X ≤ b := by unfold imin; split <;> omega
theorem imax_le {a b X : Int} : imax a b ≤ X ↔ a ≤ X ∧ b ≤ X := by unfold imax; split <;> omega
theorem rS_spec (H : List Point) (y : Int) : ∀ (m x : Nat) (r : Int × Int),
    ((∃ j, x ≤ j ∧ j < x + m ∧ bad (Ep H j) (Eq' H j) y) ∧ rS H y x m r = .inl (1, 0)) ∨
    ((∀ j, x ≤ j → j < x + m → ¬ bad (Ep H j) (Eq' H j) y) ∧ ∃ r', rS H y x m r = .inr r' ∧ (∀ X, r'.1 ≤ X ↔ r.1 ≤ X ∧ ∀ j, x ≤ j → j < x + m → (Eq' H j).Y < (Ep H j).Y → dnB (Ep H j) (Eq' H j) y ≤ X) ∧ (∀ X, X ≤ r'.2 ↔ X ≤ r.2 ∧ ∀ j, x ≤ j → j < x + m → (Ep H j).Y < (Eq' H j).Y → X ≤ upB (Ep H j) (Eq' H j) y))
  | 0, x, r => .inr ⟨fun j h1 h2 => by omega, r, rfl, fun X => ⟨fun h => ⟨h, fun j h1 h2 => by omega⟩, fun h => h.1⟩, fun X => ⟨fun h => ⟨h, fun j h1 h2 => by omega⟩, fun h => h.1⟩⟩
  | m + 1, x, r => by
    have all : ∀ {P : Nat → Prop}, (∀ j, x ≤ j → j < x + (m + 1) → P j) ↔ P x ∧ ∀ j, x + 1 ≤ j → j < x + 1 + m → P j := fun {P} =>
      ⟨fun h => ⟨h x (Nat.le_refl _) (by omega), fun j h1 h2 => h j (by omega) (by omega)⟩, fun h j h1 h2 => by
        by_cases hj : j = x
        · subst hj; exact h.1
        · exact h.2 j (by omega) (by omega)⟩
    unfold rS
    by_cases h1 : (Ep H x).Y < (Eq' H x).Y
    · have e : rstep (Ep H x) (Eq' H x) y r = some (r.1, imin r.2 (upB (Ep H x) (Eq' H x) y)) := by unfold rstep; rw [if_pos h1]
      rw [e]
      rcases rS_spec H y m (x + 1) (r.1, imin r.2 (upB (Ep H x) (Eq' H x) y)) with ⟨⟨j, j1, j2, j3⟩, h⟩ | ⟨h, r', e', h2, h3⟩
      · exact .inl ⟨⟨j, by omega, by omega, j3⟩, h⟩
      · refine .inr ⟨all.2 ⟨fun hb => hb.1 h1, h⟩, r', e', fun X => ?_, fun X => ?_⟩
        · rw [h2 X, all]
          exact ⟨fun ⟨a, b⟩ => ⟨a, fun hh => by omega, b⟩, fun ⟨a, _, b⟩ => ⟨a, b⟩⟩
        · rw [h3 X, all, imin_le]
          exact ⟨fun ⟨⟨a, a'⟩, b⟩ => ⟨a, fun _ => a', b⟩, fun ⟨a, a', b⟩ => ⟨⟨a, a' h1⟩, b⟩⟩
    · by_cases h2 : (Eq' H x).Y < (Ep H x).Y
      · have e : rstep (Ep H x) (Eq' H x) y r = some (imax r.1 (dnB (Ep H x) (Eq' H x) y), r.2) := by unfold rstep; rw [if_neg h1, if_pos h2]
        rw [e]
        rcases rS_spec H y m (x + 1) (imax r.1 (dnB (Ep H x) (Eq' H x) y), r.2) with ⟨⟨j, j1, j2, j3⟩, h⟩ | ⟨h, r', e', h3, h4⟩
        · exact .inl ⟨⟨j, by omega, by omega, j3⟩, h⟩
        · refine .inr ⟨all.2 ⟨fun hb => hb.2.1 h2, h⟩, r', e', fun X => ?_, fun X => ?_⟩
          · rw [h3 X, all, imax_le]
            exact ⟨fun ⟨⟨a, a'⟩, b⟩ => ⟨a, fun _ => a', b⟩, fun ⟨a, a', b⟩ => ⟨⟨a, a' h2⟩, b⟩⟩
          · rw [h4 X, all]
            exact ⟨fun ⟨a, b⟩ => ⟨a, fun hh => absurd hh h1, b⟩, fun ⟨a, _, b⟩ => ⟨a, b⟩⟩
      · by_cases h3 : ((Eq' H x).X - (Ep H x).X) * (y - (Ep H x).Y) < 0
        · have e : rstep (Ep H x) (Eq' H x) y r = none := by unfold rstep; rw [if_neg h1, if_neg h2, if_pos h3]
          rw [e]
          exact .inl ⟨⟨x, Nat.le_refl _, by omega, h1, h2, h3⟩, rfl⟩
        · have e : rstep (Ep H x) (Eq' H x) y r = some r := by unfold rstep; rw [if_neg h1, if_neg h2, if_neg h3]
          rw [e]
          rcases rS_spec H y m (x + 1) r with ⟨⟨j, j1, j2, j3⟩, h⟩ | ⟨h, r', e', h4, h5⟩
          · exact .inl ⟨⟨j, by omega, by omega, j3⟩, h⟩
          · refine .inr ⟨all.2 ⟨fun hb => h3 hb.2.2, h⟩, r', e', fun X => ?_, fun X => ?_⟩
            · rw [h4 X, all]
              exact ⟨fun ⟨a, b⟩ => ⟨a, fun hh => absurd hh h2, b⟩, fun ⟨a, _, b⟩ => ⟨a, b⟩⟩
            · rw [h5 X, all]
              exact ⟨fun ⟨a, b⟩ => ⟨a, fun hh => absurd hh h1, b⟩, fun ⟨a, _, b⟩ => ⟨a, b⟩⟩
end Saw
end Go.SL
