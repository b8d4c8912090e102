/- Poly's plain mathematics, part 22: the bounds lie within the range. -/
import Derived.Test.YtcppgjcniljkcaaDoorPMath21
set_option linter.unusedVariables false
set_option linter.unusedSimpArgs false
namespace Go.SL
namespace Saw

theorem upB_le {p q : Point} {y : Int} (hp : rng p) (hq : rng q) (h : spU p q y) : upB p q y ≤ 600 := by
  refine Classical.byContradiction fun hn => ?_
  have hb := (upB_iff h.1 601 y).1 (by omega)
  unfold cross at hb
  simp only at hb
  have e : (q.X - p.X) * (y - p.Y) - (601 - p.X) * (q.Y - p.Y) = -((601 - q.X) * (y - p.Y)) - (601 - p.X) * (q.Y - y) := by grind
  have a1 := Int.mul_nonneg (show 0 ≤ 601 - q.X by omega) (show 0 ≤ y - p.Y by omega)
  have a2 := Int.mul_nonneg (show 0 ≤ 601 - p.X by omega) (show 0 ≤ q.Y - y by omega)
  rcases Int.lt_or_eq_of_le (show 0 ≤ y - p.Y by omega) with h3 | h3
  · have := Int.mul_pos (show 0 < 601 - q.X by omega) h3
    omega
  · have := Int.mul_pos (show 0 < 601 - p.X by omega) (show 0 < q.Y - y by omega)
    omega
end Saw
end Go.SL
