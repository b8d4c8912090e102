/- Poly's plain mathematics, part 23: the other bound lies within the range. -/
import Derived.Test.YtcppgjcniljkcaaDoorPMath22
set_option linter.unusedVariables false
set_option linter.unusedSimpArgs false
namespace Go.SL
namespace Saw

theorem dnB_ge {p q : Point} {y : Int} (hp : rng p) (hq : rng q) (h : spD p q y) : -600 ≤ dnB p q y := by
  refine Classical.byContradiction fun hn => ?_
  have hb := (dnB_iff h.1 (-601) y).1 (by omega)
  unfold cross at hb
  simp only at hb
  have e : (q.X - p.X) * (y - p.Y) - (-601 - p.X) * (q.Y - p.Y) = -((601 + q.X) * (p.Y - y)) - (601 + p.X) * (y - q.Y) := by grind
  have a1 := Int.mul_nonneg (show 0 ≤ 601 + q.X by omega) (show 0 ≤ p.Y - y by omega)
  have a2 := Int.mul_nonneg (show 0 ≤ 601 + p.X by omega) (show 0 ≤ y - q.Y by omega)
  rcases Int.lt_or_eq_of_le (show 0 ≤ p.Y - y by omega) with h3 | h3
  · have := Int.mul_pos (show 0 < 601 + q.X by omega) h3
    omega
  · have := Int.mul_pos (show 0 < 601 + p.X by omega) (show 0 < y - q.Y by omega)
    omega
end Saw
end Go.SL
