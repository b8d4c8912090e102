/- Poly's plain mathematics, part 13: edges and heights. -/
import Derived.Test.YtcppgjcniljkcaaDoorPMath12
set_option linter.unusedVariables false
set_option linter.unusedSimpArgs false
namespace Go.SL
namespace Saw

theorem tdiv_facts (a b : Int) (hb : 0 < b) : Int.tmod a b + b * Int.tdiv a b = a ∧ Int.tmod a b < b ∧ -b < Int.tmod a b ∧ (Int.tdiv a b).natAbs ≤ a.natAbs := by
  refine ⟨Int.tmod_add_mul_tdiv a b, Int.tmod_lt_of_pos a hb, ?_, ?_⟩
  · rcases Int.le_total 0 a with h | h
    · have := Int.tmod_nonneg b h; omega
    · have h3 := Int.tmod_lt_of_pos (-a) hb
      rw [Int.neg_tmod] at h3
      omega
  · rw [Int.natAbs_tdiv]; exact Nat.div_le_self _ _

theorem ediv_of {a b q r : Int} (hb : 0 < b) (h : r + b * q = a) (h0 : 0 ≤ r) (h1 : r < b) : a / b = q := (Int.ediv_emod_unique hb).2 ⟨h, h0, h1⟩ |>.1

theorem floor_eq (a b : Int) (hb : 0 < b) (h1 : -4611686018427387904 ≤ a) (h2 : a ≤ 4611686018427387904) : poly_floor a b = some (a / b) := by
  obtain ⟨e, l, g, n⟩ := tdiv_facts a b hb
  unfold poly_floor poly_floor_k1
  rw [nz_t (by omega), w64_id (n := Int.tdiv a b) (by omega) (by omega)]
  by_cases h : Int.tmod a b < 0
  · rw [decide_eq_true h, w64_id (by omega) (by omega)]
    have : a / b = Int.tdiv a b - 1 := ediv_of hb (r := Int.tmod a b + b) (by rw [Int.mul_sub, Int.mul_one]; omega) (by omega) (by omega)
    rw [this]; rfl
  · rw [decide_eq_false h]
    have : a / b = Int.tdiv a b := ediv_of hb (r := Int.tmod a b) e (by omega) l
    rw [this]; rfl
theorem ref_floor_eq (a b : Int) (hb : 0 < b) (h3 : b ≤ 4611686018427387904) (h1 : -4611686018427387904 ≤ a) (h2 : a ≤ 4611686018427387904) : ref09_floor a b = some (a / b) := by
  obtain ⟨e, l, g, n⟩ := tdiv_facts a b hb
  have hc : Int.tdiv a b * b = b * Int.tdiv a b := Int.mul_comm _ _
  unfold ref09_floor ref09_floor_k1
  rw [nz_t (by omega), w64_id (n := Int.tdiv a b) (by omega) (by omega), w64_id (n := Int.tdiv a b * b) (by omega) (by omega)]
  by_cases h : Int.tmod a b < 0
  · rw [decide_eq_true (by omega), w64_id (by omega) (by omega)]
    have : a / b = Int.tdiv a b - 1 := ediv_of hb (r := Int.tmod a b + b) (by rw [Int.mul_sub, Int.mul_one]; omega) (by omega) (by omega)
    rw [this]; rfl
  · rw [decide_eq_false (by omega)]
    have : a / b = Int.tdiv a b := ediv_of hb (r := Int.tmod a b) e (by omega) l
    rw [this]; rfl


/-- The greatest X at height y to the left of an edge that goes up. -/
def upB (p q : Point) (y : Int) : Int := p.X + (q.X - p.X) * (y - p.Y) / (q.Y - p.Y)
/-- The least X at height y to the left of an edge that goes down. -/
def dnB (p q : Point) (y : Int) : Int := p.X - (q.X - p.X) * (y - p.Y) / (p.Y - q.Y)
theorem upB_iff {p q : Point} (h : p.Y < q.Y) (X y : Int) : X ≤ upB p q y ↔ 0 ≤ cross p q ⟨X, y⟩ := by
  unfold upB cross
  have := Int.le_ediv_iff_mul_le (a := X - p.X) (b := (q.X - p.X) * (y - p.Y)) (show 0 < q.Y - p.Y by omega)
  constructor
  · intro h1
    have h2 := this.1 (by omega)
    simp only; omega
  · intro h1
    have h2 := this.2 (by simp only at h1; omega)
    omega
theorem dnB_iff {p q : Point} (h : q.Y < p.Y) (X y : Int) : dnB p q y ≤ X ↔ 0 ≤ cross p q ⟨X, y⟩ := by
  unfold dnB cross
  have := Int.le_ediv_iff_mul_le (a := p.X - X) (b := (q.X - p.X) * (y - p.Y)) (show 0 < p.Y - q.Y by omega)
  have e : (p.X - X) * (p.Y - q.Y) = (X - p.X) * (q.Y - p.Y) := by grind
  rw [e] at this
  constructor
  · intro h1
    have h2 := this.1 (by omega)
    simp only; omega
  · intro h1
    have h2 := this.2 (by simp only at h1; omega)
    omega
/-- As the code writes the other bound. -/
theorem dnB_eq {p q : Point} (h : q.Y < p.Y) (y : Int) : q.X - (q.X - p.X) * (y - q.Y) / (p.Y - q.Y) = dnB p q y := by
  unfold dnB
  have e : (q.X - p.X) * (y - q.Y) = (q.X - p.X) * (y - p.Y) + (q.X - p.X) * (p.Y - q.Y) := by grind
  rw [e, Int.add_mul_ediv_right _ _ (by omega)]
  omega
/-- What lies at height y on an edge that spans it lies left of every edge that has both its ends on its left: a bound that goes up. -/
theorem up_up {p q u v : Point} {y : Int} (hpq : p.Y < q.Y) (hy1 : p.Y ≤ y) (hy2 : y ≤ q.Y) (huv : u.Y < v.Y) (h1 : 0 ≤ cross u v p) (h2 : 0 ≤ cross u v q) : upB p q y ≤ upB u v y := by
  rw [upB_iff huv]
  have hb := (upB_iff hpq (upB p q y) y).1 (Int.le_refl _)
  generalize upB p q y = X at hb
  have hD : 0 < q.Y - p.Y := by omega
  have key : (q.Y - p.Y) * cross u v ⟨X, y⟩ = (q.Y - y) * cross u v p + (y - p.Y) * cross u v q + (v.Y - u.Y) * cross p q ⟨X, y⟩ := by unfold cross; grind
  have a1 := Int.mul_nonneg (show 0 ≤ q.Y - y by omega) h1
  have a2 := Int.mul_nonneg (show 0 ≤ y - p.Y by omega) h2
  have a3 := Int.mul_nonneg (show 0 ≤ v.Y - u.Y by omega) hb
  have : 0 ≤ (q.Y - p.Y) * cross u v ⟨X, y⟩ := by rw [key]; omega
  exact Int.nonneg_of_mul_nonneg_right this hD
/-- The same for edges that go down. -/
theorem dn_dn {p q u v : Point} {y : Int} (hpq : q.Y < p.Y) (hy1 : q.Y ≤ y) (hy2 : y ≤ p.Y) (huv : v.Y < u.Y) (h1 : 0 ≤ cross u v p) (h2 : 0 ≤ cross u v q) : dnB u v y ≤ dnB p q y := by
  rw [dnB_iff huv]
  have hb := (dnB_iff hpq (dnB p q y) y).1 (Int.le_refl _)
  generalize dnB p q y = X at hb
  have hD : 0 < p.Y - q.Y := by omega
  have key : (p.Y - q.Y) * cross u v ⟨X, y⟩ = (y - q.Y) * cross u v p + (p.Y - y) * cross u v q + (u.Y - v.Y) * cross p q ⟨X, y⟩ := by unfold cross; grind
  have a1 := Int.mul_nonneg (show 0 ≤ y - q.Y by omega) h1
  have a2 := Int.mul_nonneg (show 0 ≤ p.Y - y by omega) h2
  have a3 := Int.mul_nonneg (show 0 ≤ u.Y - v.Y by omega) hb
  have : 0 ≤ (p.Y - q.Y) * cross u v ⟨X, y⟩ := by rw [key]; omega
  exact Int.nonneg_of_mul_nonneg_right this hD
end Saw
end Go.SL
