/- What the comparison of points gives. -/
import Derived.Test.YtcppgjcniljkcaaDoorPMod
import Derived.Test.YtcppgjcniljkcaaDoorYa5
set_option linter.unusedVariables false
set_option linter.unusedSimpArgs false
namespace Go.SL
namespace Saw
open Go.Proofs

def cmpPt (p q : Point) : Int := if p.X < q.X then -1 else if q.X < p.X then 1 else if p.Y < q.Y then -1 else if q.Y < p.Y then 1 else 0
theorem cmp_Compare_i64_eq (a b : Int) : cmp_Compare_i64 a b = some (if a < b then -1 else if b < a then 1 else 0) := by
  have e : ∀ x : Int, (x != x) = false := fun x => by simp
  unfold cmp_Compare_i64 cmp_isNaN_i64
  simp only [Option.bind_some, e, cond_false]
  by_cases h1 : a < b
  · simp [h1]
  · by_cases h2 : b < a <;> simp [h1, h2]
theorem fuel3 : ∃ n, FUEL = n + 3 := ⟨FUEL - 3, by unfold FUEL; rfl⟩
theorem cmp_Or_Si64_eq (a b : Int) : cmp_Or_Si64 [a, b] = some (if a = 0 then b else a) := by
  obtain ⟨n, hn⟩ := fuel3
  unfold cmp_Or_Si64
  rw [hn]
  have e1 : w64 1 = 1 := by decide
  have e2 : w64 2 = 2 := by decide
  by_cases ha : a = 0
  · by_cases hb : b = 0
    · subst ha hb; simp [cmp_Or_Si64_L1, inb, e1, e2]
    · have hb' : (b != 0) = true := by simp [hb]
      subst ha; simp [cmp_Or_Si64_L1, inb, e1, e2, hb']
  · have ha' : (a != 0) = true := by simp [ha]
    simp [cmp_Or_Si64_L1, inb, e1, e2, ha, ha']
theorem poly_Hull_1_eq (p q : Point) : poly_Hull_1 p q = some (cmpPt p q) := by
  unfold poly_Hull_1
  rw [cmp_Compare_i64_eq, cmp_Compare_i64_eq, Option.bind_some, Option.bind_some, cmp_Or_Si64_eq, Option.bind_some]
  unfold cmpPt
  congr 1
  by_cases h1 : p.X < q.X
  · simp [h1]
  · by_cases h2 : q.X < p.X <;> simp [h1, h2]
theorem ltPt (x y : Point) : ltOf cmpPt x y = decide (x.X < y.X ∨ (x.X = y.X ∧ x.Y < y.Y)) := by
  unfold ltOf cmpPt
  congr 1
  apply propext
  by_cases h1 : x.X < y.X
  · simp [h1]
  · by_cases h2 : y.X < x.X
    · simp [h1, h2]; omega
    · by_cases h3 : x.Y < y.Y
      · simp [h1, h2, h3]; omega
      · by_cases h4 : y.Y < x.Y <;> simp [h1, h2, h3, h4]
end Saw
end Go.SL
