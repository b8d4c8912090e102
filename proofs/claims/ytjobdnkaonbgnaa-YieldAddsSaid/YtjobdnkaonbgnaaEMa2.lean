/- Edge's plain mathematics, part 1: names, products, and both product checks. -/
import Derived.Test.YtjobdnkaonbgnaaEMa1
set_option linter.unusedVariables false
set_option linter.unusedSimpArgs false
namespace Go.SL
namespace Saw
/-! ### Green -/
/-! ### The checks -/
def empS (s : Span) : Bool := decide (s.B ≤ s.A)
def rngS (s : Span) : Bool := (decide (-600 ≤ s.A) && decide (s.A ≤ 600)) && (decide (-600 ≤ s.B) && decide (s.B ≤ 600))
/-- Neither end is empty. -/
structure Trim (s : qT) : Prop where
 nil : s.Rows = [] → s.Low = 0
 first : s.Rows ≠ [] → empS (s.Rows.getD 0 default) = false
 last : s.Rows ≠ [] → empS (s.Rows.getD (s.Rows.length - 1) default) = false
/-- A valid section. -/
structure VS (s : qT) : Prop extends Trim s where
 len : s.Rows.length ≤ 120
 low : -60 ≤ s.Low
 high : s.Low + s.Rows.length ≤ 60
 rng : ∀ x ∈ s.Rows, rngS x = true
 zero : ∀ x ∈ s.Rows, empS x = true → x = ⟨0, 0⟩
theorem XH (n : Int) : IntKind.u64.wrap n = n % 18446744073709551616 := by
 unfold IntKind.wrap
 simp only [IntKind.bits, IntKind.signed, Bool.false_and]
 simp
end Saw
end Go.SL
