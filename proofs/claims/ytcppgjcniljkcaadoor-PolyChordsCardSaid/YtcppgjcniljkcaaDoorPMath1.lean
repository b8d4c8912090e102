/- Poly's plain mathematics, part 1: ranges, areas, bounds. -/
import Derived.Test.YtcppgjcniljkcaaDoorPMod
import Derived.Test.YtcppgjcniljkcaaDoorMBase
set_option linter.unusedVariables false
set_option linter.unusedSimpArgs false
namespace Go.SL
namespace Saw

theorem awake_true : law09_awake = some true := by kernel_rfl

def inRange (p : Point) : Bool := (decide (-600 ≤ p.X) && decide (p.X ≤ 600)) && (decide (-600 ≤ p.Y) && decide (p.Y ≤ 600))
theorem inRange_iff {p : Point} : inRange p = true ↔ (-600 ≤ p.X ∧ p.X ≤ 600) ∧ (-600 ≤ p.Y ∧ p.Y ≤ 600) := by
  unfold inRange; simp only [Bool.and_eq_true, decide_eq_true_eq]
theorem within_eq (a : Int) : poly_within a = some (decide (-600 ≤ a) && decide (a ≤ 600)) := by
  unfold poly_within poly_within_k1
  by_cases h : a ≥ -600 <;> simp [h]
def wrapB (c : Bool) : Bool ⊕ Unit := bif c then .inr () else .inl false

theorem range_loop (a : List Point) (hl : a.length ≤ 1000000) : ∀ (n x : Nat), a.length < x + n → x ≤ a.length → poly_inRange_L1 a n (x : Int) = some (wrapB ((a.drop x).all inRange))
  | 0, x, h1, h2 => by omega
  | n + 1, x, h1, h2 => by
    unfold poly_inRange_L1
    by_cases hx : x < a.length
    · have ih := range_loop a hl n (x + 1) (by omega) (by omega)
      rw [lt_t (by omega), inb_t (by omega) (by omega), drop_getD a x hx]
      simp only [cond_true, Int.toNat_natCast, within_eq, Option.bind_some, poly_inRange_k2, inc_eq (show x < 4611686018427387904 by omega), ih, List.all_cons, inRange]
      generalize a.getD x default = p
      cases (decide (-600 ≤ p.X) && decide (p.X ≤ 600)) <;> cases (decide (-600 ≤ p.Y) && decide (p.Y ≤ 600)) <;> simp [wrapB]
    · rw [lt_f (by omega), List.drop_of_length_le (by omega)]
      rfl
theorem poly_range (a : List Point) (hl : a.length ≤ 1000000) : poly_inRange a = some (a.all inRange) := by
  unfold poly_inRange
  have h := range_loop a hl FUEL 0 (by rw [FUEL_eq]; omega) (by omega)
  rw [show ((0 : Nat) : Int) = 0 from rfl, List.drop_zero] at h
  rw [h, Option.bind_some]
  cases a.all inRange <;> rfl
theorem ref_cond (p : Point) (b : Bool) : (bif decide (p.X < -600) then some (Sum.inl false) else bif decide (p.X > 600) then some (Sum.inl false) else bif decide (p.Y < -600) then some (Sum.inl false) else bif decide (p.Y > 600) then some (Sum.inl false) else some (wrapB b)) = some (wrapB (decide (-600 ≤ p.X) && decide (p.X ≤ 600) && (decide (-600 ≤ p.Y) && decide (p.Y ≤ 600)) && b)) := by
  by_cases h1 : p.X < -600
  · simp [h1, show ¬ -600 ≤ p.X by omega, wrapB]
  by_cases h2 : p.X > 600
  · simp [h1, h2, show ¬ p.X ≤ 600 by omega, wrapB]
  by_cases h3 : p.Y < -600
  · simp [h1, h2, h3, show ¬ -600 ≤ p.Y by omega, wrapB]
  by_cases h4 : p.Y > 600
  · simp [h1, h2, h3, h4, show ¬ p.Y ≤ 600 by omega, wrapB]
  simp [h1, h2, h3, h4, show -600 ≤ p.X by omega, show p.X ≤ 600 by omega, show -600 ≤ p.Y by omega, show p.Y ≤ 600 by omega]
theorem ref_range_loop (a : List Point) (hl : a.length ≤ 1000000) : ∀ (n x : Nat), a.length < x + n → x ≤ a.length → ref09_Ranged_L1 a n (x : Int) = some (wrapB ((a.drop x).all inRange))
  | 0, x, h1, h2 => by omega
  | n + 1, x, h1, h2 => by
    unfold ref09_Ranged_L1
    by_cases hx : x < a.length
    · have ih := ref_range_loop a hl n (x + 1) (by omega) (by omega)
      rw [lt_t (by omega), inb_t (by omega) (by omega), drop_getD a x hx]
      simp only [cond_true, Int.toNat_natCast, ref09_Ranged_k2, inc_eq (show x < 4611686018427387904 by omega), ih, List.all_cons, inRange]
      exact ref_cond _ _
    · rw [lt_f (by omega), List.drop_of_length_le (by omega)]
      rfl
theorem ref_range (a : List Point) (hl : a.length ≤ 1000000) : ref09_Ranged a = some (a.all inRange) := by
  unfold ref09_Ranged
  have h := ref_range_loop a hl FUEL 0 (by rw [FUEL_eq]; omega) (by omega)
  rw [show ((0 : Nat) : Int) = 0 from rfl, List.drop_zero] at h
  rw [h, Option.bind_some]
  cases a.all inRange <;> rfl

def term (p q : Point) : Int := p.X * q.Y - q.X * p.Y
def areaS (a : List Point) : Nat → Nat → Int → Int
  | _, 0, acc => acc
  | x, m + 1, acc => areaS a (x + 1) m (acc + term (a.getD x default) (a.getD ((x + 1) % a.length) default))
def area (a : List Point) : Int := areaS a 0 a.length 0
theorem all_range {a : List Point} (h : a.all inRange = true) {x : Nat} (hx : x < a.length) : (-600 ≤ (a.getD x default).X ∧ (a.getD x default).X ≤ 600) ∧ (-600 ≤ (a.getD x default).Y ∧ (a.getD x default).Y ≤ 600) :=
  inRange_iff.1 (List.all_eq_true.1 h _ (getD_mem' hx))
theorem prod_b {a b : Int} (h1 : -600 ≤ a ∧ a ≤ 600) (h2 : -600 ≤ b ∧ b ≤ 600) : -360000 ≤ a * b ∧ a * b ≤ 360000 :=
  mul_bound (m := 600) (n := 600) h1.1 h1.2 h2.1 h2.2 (by decide) (by decide)
theorem term_b {p q : Point} (hp : (-600 ≤ p.X ∧ p.X ≤ 600) ∧ (-600 ≤ p.Y ∧ p.Y ≤ 600)) (hq : (-600 ≤ q.X ∧ q.X ≤ 600) ∧ (-600 ≤ q.Y ∧ q.Y ≤ 600)) : -720000 ≤ term p q ∧ term p q ≤ 720000 := by
  have h1 := prod_b hp.1 hq.2
  have h2 := prod_b hq.1 hp.2
  unfold term; omega

theorem area_loop (a : List Point) (hr : a.all inRange = true) (hl : a.length ≤ 1000000) : ∀ (m n x : Nat) (acc : Int), x + m = a.length → m < n → -(720000 * (x : Int)) ≤ acc → acc ≤ 720000 * (x : Int) → poly_Area2_L2 a n acc (x : Int) = some (areaS a x m acc) ∧ ref09_Area2_L2 a n acc (x : Int) = some (areaS a x m acc)
  | _, 0, x, _, _, hn, _, _ => by omega
  | 0, n + 1, x, acc, hx, _, _, _ => by
    unfold poly_Area2_L2 ref09_Area2_L2 areaS
    rw [lt_f (by omega)]
    exact ⟨rfl, rfl⟩
  | m + 1, n + 1, x, acc, hx, hn, hb1, hb2 => by
    have hlen : 0 < a.length := by omega
    have hy : (x + 1) % a.length < a.length := Nat.mod_lt _ hlen
    have hp := all_range hr (show x < a.length by omega)
    have hq := all_range hr hy
    have ht := term_b hp hq
    obtain ⟨ih1, ih2⟩ := area_loop a hr hl m n (x + 1) (acc + term (a.getD x default) (a.getD ((x + 1) % a.length) default)) (by omega) (by omega) (by omega) (by omega)
    have p1 := prod_b hp.1 hq.2
    have p2 := prod_b hq.1 hp.2
    unfold poly_Area2_L2 ref09_Area2_L2 areaS
    rw [nxt_eq hlen (by omega), lt_t (by omega), inb_t (i := (x : Int)) (by omega) (by omega), nz_t (by omega), inb_t (by omega) (by omega)]
    simp only [cond_true, Int.toNat_natCast, inc_eq (show x < 4611686018427387904 by omega)]
    change -720000 ≤ (a.getD x default).X * (a.getD ((x + 1) % a.length) default).Y - (a.getD ((x + 1) % a.length) default).X * (a.getD x default).Y ∧ _ at ht
    constructor
    · rw [w64_id (n := (a.getD x default).X * _) (by omega) (by omega), w64_id (n := (a.getD ((x + 1) % a.length) default).X * _) (by omega) (by omega), w64_id (n := _ - _) (by omega) (by omega), w64_id (by omega) (by omega)]
      exact ih1
    · rw [w64_id (n := (a.getD x default).X * _) (by omega) (by omega), w64_id (n := (a.getD ((x + 1) % a.length) default).X * _) (by omega) (by omega), w64_id (n := acc + _) (by omega) (by omega), w64_id (n := _ - _) (by omega) (by omega), show acc + (a.getD x default).X * (a.getD ((x + 1) % a.length) default).Y - (a.getD ((x + 1) % a.length) default).X * (a.getD x default).Y = acc + term (a.getD x default) (a.getD ((x + 1) % a.length) default) by unfold term; omega]
      exact ih2

def area2 (a : List Point) : Int := bif decide (((a.length : Nat) : Int) > 32) then 0 else bif a.all inRange then area a else 0
theorem area_eq (a : List Point) : poly_Area2 a = some (area2 a) ∧ ref09_Area2 a = some (area2 a) := by
  unfold poly_Area2 ref09_Area2 area2 poly_Area2_k1 ref09_Area2_k1
  by_cases h : ((a.length : Nat) : Int) > 32
  · simp [h]
  · rw [decide_eq_false h, poly_range a (by omega), ref_range a (by omega)]
    simp only [cond_false, Option.bind_some]
    cases hr : a.all inRange with
    | false => exact ⟨rfl, rfl⟩
    | true =>
      obtain ⟨h1, h2⟩ := area_loop a hr (by omega) a.length FUEL 0 0 (by omega) (by rw [FUEL_eq]; omega) (by omega) (by omega)
      simp only [show ((0 : Nat) : Int) = 0 from rfl] at h1 h2
      simp only [Bool.not_true, cond_false, cond_true, h1, h2, Option.bind_some]
      exact ⟨rfl, rfl⟩
def chk (a : List Point) : Int := bif decide (((a.length : Nat) : Int) < 3) then 3 else bif decide (((a.length : Nat) : Int) > 32) then 4 else bif !(a.all inRange) then 9 else bif area a == 0 then 19 else 0
theorem chk_eq (a : List Point) : poly_Check a = some (chk a) ∧ ref09_Check a = some (chk a) := by
  unfold poly_Check ref09_Check chk
  by_cases h : ((a.length : Nat) : Int) < 3
  · simp [h]
  by_cases h2 : ((a.length : Nat) : Int) > 32
  · simp [h, h2]
  rw [decide_eq_false h, decide_eq_false h2, poly_range a (by omega), ref_range a (by omega), (area_eq a).1, (area_eq a).2]
  simp only [cond_false, Option.bind_some, area2, decide_eq_false h2]
  cases a.all inRange with
  | false => exact ⟨rfl, rfl⟩
  | true =>
    simp only [Bool.not_true, cond_false, cond_true]
    cases area a == 0 <;> exact ⟨rfl, rfl⟩

def bstep (r : Rect) (p : Point) : Rect := Rect.mk (Span.mk (imin r.X.A p.X) (imax r.X.B p.X)) (Span.mk (imin r.Y.A p.Y) (imax r.Y.B p.Y))
def bounds (a : List Point) : Rect := match a with
  | [] => Rect.mk (Span.mk 0 0) (Span.mk 0 0)
  | p :: l => l.foldl bstep (Rect.mk (Span.mk p.X p.X) (Span.mk p.Y p.Y))
theorem bounds_loop (a : List Point) (hl : a.length ≤ 1000000) : ∀ (n x : Nat) (r : Rect), a.length < x + n → x ≤ a.length → poly_Bounds_L1 a n (x : Int) r = some ((a.drop x).foldl bstep r) ∧ ref09_Bounds_L1 a n (x : Int) r = some ((a.drop x).foldl bstep r)
  | 0, x, r, h1, h2 => by omega
  | n + 1, x, r, h1, h2 => by
    unfold poly_Bounds_L1 ref09_Bounds_L1
    by_cases hx : x < a.length
    · have ih := bounds_loop a hl n (x + 1) (bstep r (a.getD x default)) (by omega) (by omega)
      rw [lt_t (by omega), inb_t (by omega) (by omega), drop_getD a x hx]
      simp only [cond_true, Int.toNat_natCast, inc_eq (show x < 4611686018427387904 by omega), List.foldl_cons]
      exact ih
    · rw [lt_f (by omega), List.drop_of_length_le (by omega)]
      exact ⟨rfl, rfl⟩
theorem imin_self (x : Int) : imin x x = x := by unfold imin; simp
theorem imax_self (x : Int) : imax x x = x := by unfold imax; simp
theorem bounds_eq (a : List Point) (hl : a.length ≤ 1000000) : poly_Bounds a = some (bounds a) ∧ ref09_Bounds a = some (bounds a) := by
  unfold poly_Bounds ref09_Bounds
  cases a with
  | nil => exact ⟨rfl, rfl⟩
  | cons p l =>
    have h0 : ((((p :: l).length : Nat) : Int) == 0) = false := by simp; omega
    have h1 := (bounds_loop (p :: l) hl FUEL 0 (Rect.mk (Span.mk p.X p.X) (Span.mk p.Y p.Y)) (by rw [FUEL_eq]; omega) (by omega)).1
    have h2 := (bounds_loop (p :: l) hl FUEL 1 (Rect.mk (Span.mk p.X p.X) (Span.mk p.Y p.Y)) (by rw [FUEL_eq]; omega) (by simp)).2
    rw [List.drop_zero] at h1
    rw [h0, inb_t (by omega) (by simp)]
    simp only [cond_false, cond_true, Int.toNat_zero, List.getD_cons_zero]
    rw [show ((0 : Nat) : Int) = 0 from rfl] at h1
    rw [show ((1 : Nat) : Int) = 1 from rfl] at h2
    rw [h1, h2]
    refine ⟨?_, rfl⟩
    show some (l.foldl bstep (bstep _ p)) = _
    unfold bstep
    simp only [imin_self, imax_self]
    rfl

theorem PolyChecks_true (a : List Point) : law09_PolyChecks a = some true := by
  unfold law09_PolyChecks law09_few
  simp only [Option.bind_some]
  by_cases h : ((a.length : Nat) : Int) ≤ 100
  · rw [decide_eq_true h]
    simp only [Bool.not_true, cond_false, (chk_eq a).1, (chk_eq a).2, (area_eq a).1, (area_eq a).2, (bounds_eq a (by omega)).1, (bounds_eq a (by omega)).2, Option.bind_some, beq_self_eq_true, cond_true, Bool.and_true, awake_true, law09_PolyChecks_k1]
  · rw [decide_eq_false h]
    simp only [Bool.not_false, cond_true, awake_true, Option.bind_some]
end Saw
end Go.SL
