/- Poly's plain mathematics, part 21: both bounds at a height within the hull. -/
import Derived.Test.YtcppgjcniljkcaaDoorPMath20
set_option linter.unusedVariables false
set_option linter.unusedSimpArgs false
namespace Go.SL
namespace Saw

theorem no_bad {H : List Point} (hc : Cvx H) {y : Int} {a b : Point} (ha : a ∈ H) (hb : b ∈ H) (h1 : a.Y ≤ y) (h2 : y ≤ b.Y) {j : Nat} (hj : j < H.length) : ¬ bad (Ep H j) (Eq' H j) y := by
  rintro ⟨n1, n2, n3⟩
  have la := hc.lf j hj a ha
  have lb := hc.lf j hj b hb
  generalize Ep H j = p at *
  generalize Eq' H j = q at *
  have hy : q.Y - p.Y = 0 := by omega
  unfold cross at la lb
  rw [hy, Int.mul_zero] at la lb
  rcases Int.lt_trichotomy (q.X - p.X) 0 with h | h | h
  · have : 0 ≤ (q.X - p.X) * (y - b.Y) := by
      have := Int.mul_nonneg (show 0 ≤ -(q.X - p.X) by omega) (show 0 ≤ b.Y - y by omega)
      have e : -(q.X - p.X) * (b.Y - y) = (q.X - p.X) * (y - b.Y) := by grind
      omega
    have e : (q.X - p.X) * (y - p.Y) = (q.X - p.X) * (y - b.Y) + (q.X - p.X) * (b.Y - p.Y) := by grind
    omega
  · rw [h] at n3; simp at n3
  · have : 0 ≤ (q.X - p.X) * (y - a.Y) := Int.mul_nonneg (by omega) (by omega)
    have e : (q.X - p.X) * (y - p.Y) = (q.X - p.X) * (y - a.Y) + (q.X - p.X) * (a.Y - p.Y) := by grind
    omega
end Saw
end Go.SL
