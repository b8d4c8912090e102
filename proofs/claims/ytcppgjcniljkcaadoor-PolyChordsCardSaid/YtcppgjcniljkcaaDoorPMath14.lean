/- Poly's plain mathematics, part 14: the loops of both chords. -/
import Derived.Test.YtcppgjcniljkcaaDoorPMath13
set_option linter.unusedVariables false
set_option linter.unusedSimpArgs false
namespace Go.SL
namespace Saw

theorem ediv_b {N D : Int} (hD : 0 < D) (h1 : -1440000 ≤ N) (h2 : N ≤ 1440000) : -1440000 ≤ N / D ∧ N / D ≤ 1440000 := by
  constructor
  · rw [Int.le_ediv_iff_mul_le hD]
    have := Int.mul_le_mul_of_nonneg_left (a := -1440000) (b := 0) (c := D - 1) (by decide) (by omega)
    have e : (-1440000) * D = (D - 1) * (-1440000) + (-1440000) := by grind
    omega
  · have := Int.ediv_lt_of_lt_mul (a := N) (b := 1440001) hD (by
      have := Int.mul_nonneg (show (0 : Int) ≤ 1440001 by decide) (show 0 ≤ D - 1 by omega)
      have e : 1440001 * D = 1440001 * (D - 1) + 1440001 := by grind
      omega)
    omega
def pstep (p q : Point) (y : Int) (r : Int × Int) : Int × Int :=
  if p.Y < q.Y ∧ p.Y ≤ y ∧ y ≤ q.Y then (r.1, upB p q y) else if q.Y < p.Y ∧ q.Y ≤ y ∧ y ≤ p.Y then (dnB p q y, r.2) else r
def pS (H : List Point) (y : Int) : Nat → Nat → Int × Int → Int × Int
  | _, 0, r => r
  | x, m + 1, r => pS H y (x + 1) m (pstep (H.getD x default) (H.getD ((x + 1) % H.length) default) y r)
/-- Both, with those that refuse. -/
def rstep (p q : Point) (y : Int) (r : Int × Int) : Option (Int × Int) :=
  if p.Y < q.Y then some (r.1, imin r.2 (upB p q y)) else if q.Y < p.Y then some (imax r.1 (dnB p q y), r.2) else if (q.X - p.X) * (y - p.Y) < 0 then none else some r
def rS (H : List Point) (y : Int) : Nat → Nat → Int × Int → (Int × Int) ⊕ (Int × Int)
  | _, 0, r => .inr r
  | x, m + 1, r => match rstep (H.getD x default) (H.getD ((x + 1) % H.length) default) y r with
    | some r' => rS H y (x + 1) m r'
    | none => .inl (1, 0)
end Saw
end Go.SL
