/- Poly's plain mathematics, part 25: at a height outside of the hull the reference finds nothing. -/
import Derived.Test.YtcppgjcniljkcaaDoorPMath24
set_option linter.unusedVariables false
set_option linter.unusedSimpArgs false
namespace Go.SL
namespace Saw

theorem out_key {u v z : Point} {X y : Int} (h1 : 0 ≤ cross u v ⟨X, y⟩) (h2 : 0 ≤ cross v z ⟨X, y⟩) (h3 : 0 < cross u v z) : ¬ ((v.Y < u.Y ∧ v.Y < z.Y ∧ y < v.Y) ∨ (u.Y < v.Y ∧ z.Y < v.Y ∧ v.Y < y)) := by
  have key : cross u v z * (v.Y - y) = -(cross u v ⟨X, y⟩ * (z.Y - v.Y)) - cross v z ⟨X, y⟩ * (u.Y - v.Y) := by unfold cross; grind
  rintro (⟨a1, a2, a3⟩ | ⟨a1, a2, a3⟩)
  · have b1 := Int.mul_pos h3 (show 0 < v.Y - y by omega)
    have b2 := Int.mul_nonneg h1 (show 0 ≤ z.Y - v.Y by omega)
    have b3 := Int.mul_nonneg h2 (show 0 ≤ u.Y - v.Y by omega)
    omega
  · have b1 := Int.mul_pos h3 (show 0 < y - v.Y by omega)
    have b2 := Int.mul_nonneg h1 (show 0 ≤ v.Y - z.Y by omega)
    have b3 := Int.mul_nonneg h2 (show 0 ≤ v.Y - u.Y by omega)
    have e1 : cross u v z * (y - v.Y) = -(cross u v z * (v.Y - y)) := by grind
    have e2 : cross u v ⟨X, y⟩ * (v.Y - z.Y) = -(cross u v ⟨X, y⟩ * (z.Y - v.Y)) := by grind
    have e3 : cross v z ⟨X, y⟩ * (v.Y - u.Y) = -(cross v z ⟨X, y⟩ * (u.Y - v.Y)) := by grind
    omega
end Saw
end Go.SL
