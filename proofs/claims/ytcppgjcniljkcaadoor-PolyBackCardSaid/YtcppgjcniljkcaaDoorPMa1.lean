/- Plain mathematics that all seats use: 64-bit sums that do not wrap, bounds, lists. -/
import Derived.Test.YtcppgjcniljkcaaDoorYa5
import Derived.Test.YtcppgjcniljkcaaDoorPMod
import Derived.Test.YtcppgjcniljkcaaDoorPCmp
set_option linter.unusedVariables false
set_option linter.unusedSimpArgs false
namespace Go.SL

theorem FUEL_eq : FUEL = 4611686018427387904 := by unfold FUEL; rfl
theorem w64_id {n : Int} (h1 : -9223372036854775808 ≤ n) (h2 : n ≤ 9223372036854775807) : w64 n = n := by
  unfold w64 IntKind.wrap
  simp only [IntKind.bits, IntKind.signed, Bool.true_and]
  split
  · rename_i h
    have h' : n % 2 ^ 64 ≥ 2 ^ (64 - 1) := of_decide_eq_true h
    omega
  · rename_i h
    have h' : ¬ n % 2 ^ 64 ≥ 2 ^ (64 - 1) := fun hh => h (decide_eq_true hh)
    omega
theorem inb_t {i : Int} {n : Nat} (h0 : 0 ≤ i) (h1 : i < (n : Int)) : inb i n = true := by unfold inb; exact decide_eq_true ⟨h0, h1⟩
theorem nz_t {b : Int} (h : b ≠ 0) : nz b = true := by unfold nz; exact decide_eq_true h
theorem room_t {n b : Nat} (h : n * b ≤ 140737488355328) : room n b = true := by unfold room; exact decide_eq_true h
theorem lt_t {a b : Int} (h : a < b) : decide (a < b) = true := decide_eq_true h
theorem lt_f {a b : Int} (h : ¬ a < b) : decide (a < b) = false := decide_eq_false h
theorem inc_eq {x : Nat} (h : x < 4611686018427387904) : w64 ((x : Int) + 1) = ((x + 1 : Nat) : Int) := by rw [w64_id (by omega) (by omega)]; omega
theorem drop_getD {α : Type} [Inhabited α] (l : List α) (x : Nat) (h : x < l.length) : l.drop x = l.getD x default :: l.drop (x + 1) := by
  rw [List.drop_eq_getElem_cons h, List.getD_eq_getElem?_getD, List.getElem?_eq_getElem h]
  rfl
theorem getD_mem' {α : Type} [Inhabited α] {l : List α} {x : Nat} (h : x < l.length) : l.getD x default ∈ l := by
  rw [List.getD_eq_getElem?_getD, List.getElem?_eq_getElem h]; exact List.getElem_mem h
/-- The next corner's number. -/
theorem nxt_eq {n x : Nat} (hn : 0 < n) (hx : x < 4611686018427387904) : Int.tmod (w64 ((x : Int) + 1)) (n : Int) = (((x + 1) % n : Nat) : Int) := by
  rw [inc_eq hx]
  rfl
theorem mul_bound {a b m n : Int} (h1 : -m ≤ a) (h2 : a ≤ m) (h3 : -n ≤ b) (h4 : b ≤ n) (hm : 0 ≤ m) (hn : 0 ≤ n) : -(m * n) ≤ a * b ∧ a * b ≤ m * n := by
  constructor
  · have e1 := Int.mul_nonneg (show 0 ≤ m - a by omega) (show 0 ≤ n + b by omega)
    have e2 := Int.mul_nonneg (show 0 ≤ m + a by omega) (show 0 ≤ n - b by omega)
    have e3 := Int.mul_nonneg (show 0 ≤ m + a by omega) (show 0 ≤ n + b by omega)
    rcases Int.le_total 0 b with hb | hb
    · have := Int.mul_nonneg (show 0 ≤ m + a by omega) hb
      have h5 := Int.mul_nonneg hm (show 0 ≤ n - b by omega)
      simp only [Int.add_mul, Int.mul_add, Int.sub_mul, Int.mul_sub] at *
      omega
    · have := Int.mul_nonneg (show 0 ≤ m - a by omega) (show 0 ≤ -b by omega)
      have h5 := Int.mul_nonneg hm (show 0 ≤ n + b by omega)
      simp only [Int.add_mul, Int.mul_add, Int.sub_mul, Int.mul_sub, Int.mul_neg] at *
      omega
  · rcases Int.le_total 0 b with hb | hb
    · have := Int.mul_nonneg (show 0 ≤ m - a by omega) hb
      have h5 := Int.mul_nonneg hm (show 0 ≤ n - b by omega)
      simp only [Int.add_mul, Int.mul_add, Int.sub_mul, Int.mul_sub] at *
      omega
    · have := Int.mul_nonneg (show 0 ≤ m + a by omega) (show 0 ≤ -b by omega)
      have h5 := Int.mul_nonneg hm (show 0 ≤ n + b by omega)
      simp only [Int.add_mul, Int.mul_add, Int.sub_mul, Int.mul_sub, Int.mul_neg] at *
      omega
end Go.SL

namespace Go.SL
namespace Saw

theorem awake_true : law09_awake = some true := by kernel_rfl

def inRange (p : Point) : Bool := (decide (-600 ≤ p.X) && decide (p.X ≤ 600)) && (decide (-600 ≤ p.Y) && decide (p.Y ≤ 600))
theorem inRange_iff {p : Point} : inRange p = true ↔ (-600 ≤ p.X ∧ p.X ≤ 600) ∧ (-600 ≤ p.Y ∧ p.Y ≤ 600) := by
  unfold inRange; simp only [Bool.and_eq_true, decide_eq_true_eq]
theorem within_eq (a : Int) : poly_within a = some (decide (-600 ≤ a) && decide (a ≤ 600)) := by
  unfold poly_within poly_within_k1
  by_cases h : a ≥ -600 <;> simp [h]
def wrapB (c : Bool) : Bool ⊕ Unit := bif c then .inr () else .inl false

theorem range_loop (a : List Point) (hl : a.length ≤ 1000000) : ∀ (n x : Nat), a.length < x + n → x ≤ a.length → poly_inRange_L1 a n (x : Int) = some (wrapB ((a.drop x).all inRange))
  | 0, x, h1, h2 => by omega
  | n + 1, x, h1, h2 => by
    unfold poly_inRange_L1
    by_cases hx : x < a.length
    · have ih := range_loop a hl n (x + 1) (by omega) (by omega)
      rw [lt_t (by omega), inb_t (by omega) (by omega), drop_getD a x hx]
      simp only [cond_true, Int.toNat_natCast, within_eq, Option.bind_some, poly_inRange_k2, inc_eq (show x < 4611686018427387904 by omega), ih, List.all_cons, inRange]
      generalize a.getD x default = p
      cases (decide (-600 ≤ p.X) && decide (p.X ≤ 600)) <;> cases (decide (-600 ≤ p.Y) && decide (p.Y ≤ 600)) <;> simp [wrapB]
    · rw [lt_f (by omega), List.drop_of_length_le (by omega)]
      rfl
theorem poly_range (a : List Point) (hl : a.length ≤ 1000000) : poly_inRange a = some (a.all inRange) := by
  unfold poly_inRange
  have h := range_loop a hl FUEL 0 (by rw [FUEL_eq]; omega) (by omega)
  rw [show ((0 : Nat) : Int) = 0 from rfl, List.drop_zero] at h
  rw [h, Option.bind_some]
  cases a.all inRange <;> rfl
theorem ref_cond (p : Point) (b : Bool) : (bif decide (p.X < -600) then some (Sum.inl false) else bif decide (p.X > 600) then some (Sum.inl false) else bif decide (p.Y < -600) then some (Sum.inl false) else bif decide (p.Y > 600) then some (Sum.inl false) else some (wrapB b)) = some (wrapB (decide (-600 ≤ p.X) && decide (p.X ≤ 600) && (decide (-600 ≤ p.Y) && decide (p.Y ≤ 600)) && b)) := by
  by_cases h1 : p.X < -600
  · simp [h1, show ¬ -600 ≤ p.X by omega, wrapB]
  by_cases h2 : p.X > 600
  · simp [h1, h2, show ¬ p.X ≤ 600 by omega, wrapB]
  by_cases h3 : p.Y < -600
  · simp [h1, h2, h3, show ¬ -600 ≤ p.Y by omega, wrapB]
  by_cases h4 : p.Y > 600
  · simp [h1, h2, h3, h4, show ¬ p.Y ≤ 600 by omega, wrapB]
  simp [h1, h2, h3, h4, show -600 ≤ p.X by omega, show p.X ≤ 600 by omega, show -600 ≤ p.Y by omega, show p.Y ≤ 600 by omega]
theorem ref_range_loop (a : List Point) (hl : a.length ≤ 1000000) : ∀ (n x : Nat), a.length < x + n → x ≤ a.length → ref09_Ranged_L1 a n (x : Int) = some (wrapB ((a.drop x).all inRange))
  | 0, x, h1, h2 => by omega
  | n + 1, x, h1, h2 => by
    unfold ref09_Ranged_L1
    by_cases hx : x < a.length
    · have ih := ref_range_loop a hl n (x + 1) (by omega) (by omega)
      rw [lt_t (by omega), inb_t (by omega) (by omega), drop_getD a x hx]
      simp only [cond_true, Int.toNat_natCast, ref09_Ranged_k2, inc_eq (show x < 4611686018427387904 by omega), ih, List.all_cons, inRange]
      exact ref_cond _ _
    · rw [lt_f (by omega), List.drop_of_length_le (by omega)]
      rfl
theorem ref_range (a : List Point) (hl : a.length ≤ 1000000) : ref09_Ranged a = some (a.all inRange) := by
  unfold ref09_Ranged
  have h := ref_range_loop a hl FUEL 0 (by rw [FUEL_eq]; omega) (by omega)
  rw [show ((0 : Nat) : Int) = 0 from rfl, List.drop_zero] at h
  rw [h, Option.bind_some]
  cases a.all inRange <;> rfl

def term (p q : Point) : Int := p.X * q.Y - q.X * p.Y
def areaS (a : List Point) : Nat → Nat → Int → Int
  | _, 0, acc => acc
  | x, m + 1, acc => areaS a (x + 1) m (acc + term (a.getD x default) (a.getD ((x + 1) % a.length) default))
def area (a : List Point) : Int := areaS a 0 a.length 0
theorem all_range {a : List Point} (h : a.all inRange = true) {x : Nat} (hx : x < a.length) : (-600 ≤ (a.getD x default).X ∧ (a.getD x default).X ≤ 600) ∧ (-600 ≤ (a.getD x default).Y ∧ (a.getD x default).Y ≤ 600) :=
  inRange_iff.1 (List.all_eq_true.1 h _ (getD_mem' hx))
theorem prod_b {a b : Int} (h1 : -600 ≤ a ∧ a ≤ 600) (h2 : -600 ≤ b ∧ b ≤ 600) : -360000 ≤ a * b ∧ a * b ≤ 360000 :=
  mul_bound (m := 600) (n := 600) h1.1 h1.2 h2.1 h2.2 (by decide) (by decide)
theorem term_b {p q : Point} (hp : (-600 ≤ p.X ∧ p.X ≤ 600) ∧ (-600 ≤ p.Y ∧ p.Y ≤ 600)) (hq : (-600 ≤ q.X ∧ q.X ≤ 600) ∧ (-600 ≤ q.Y ∧ q.Y ≤ 600)) : -720000 ≤ term p q ∧ term p q ≤ 720000 := by
  have h1 := prod_b hp.1 hq.2
  have h2 := prod_b hq.1 hp.2
  unfold term; omega

theorem area_loop (a : List Point) (hr : a.all inRange = true) (hl : a.length ≤ 1000000) : ∀ (m n x : Nat) (acc : Int), x + m = a.length → m < n → -(720000 * (x : Int)) ≤ acc → acc ≤ 720000 * (x : Int) → poly_Area2_L2 a n acc (x : Int) = some (areaS a x m acc) ∧ ref09_Area2_L2 a n acc (x : Int) = some (areaS a x m acc)
  | _, 0, x, _, _, hn, _, _ => by omega
  | 0, n + 1, x, acc, hx, _, _, _ => by
    unfold poly_Area2_L2 ref09_Area2_L2 areaS
    rw [lt_f (by omega)]
    exact ⟨rfl, rfl⟩
  | m + 1, n + 1, x, acc, hx, hn, hb1, hb2 => by
    have hlen : 0 < a.length := by omega
    have hy : (x + 1) % a.length < a.length := Nat.mod_lt _ hlen
    have hp := all_range hr (show x < a.length by omega)
    have hq := all_range hr hy
    have ht := term_b hp hq
    obtain ⟨ih1, ih2⟩ := area_loop a hr hl m n (x + 1) (acc + term (a.getD x default) (a.getD ((x + 1) % a.length) default)) (by omega) (by omega) (by omega) (by omega)
    have p1 := prod_b hp.1 hq.2
    have p2 := prod_b hq.1 hp.2
    unfold poly_Area2_L2 ref09_Area2_L2 areaS
    rw [nxt_eq hlen (by omega), lt_t (by omega), inb_t (i := (x : Int)) (by omega) (by omega), nz_t (by omega), inb_t (by omega) (by omega)]
    simp only [cond_true, Int.toNat_natCast, inc_eq (show x < 4611686018427387904 by omega)]
    change -720000 ≤ (a.getD x default).X * (a.getD ((x + 1) % a.length) default).Y - (a.getD ((x + 1) % a.length) default).X * (a.getD x default).Y ∧ _ at ht
    constructor
    · rw [w64_id (n := (a.getD x default).X * _) (by omega) (by omega), w64_id (n := (a.getD ((x + 1) % a.length) default).X * _) (by omega) (by omega), w64_id (n := _ - _) (by omega) (by omega), w64_id (by omega) (by omega)]
      exact ih1
    · rw [w64_id (n := (a.getD x default).X * _) (by omega) (by omega), w64_id (n := (a.getD ((x + 1) % a.length) default).X * _) (by omega) (by omega), w64_id (n := acc + _) (by omega) (by omega), w64_id (n := _ - _) (by omega) (by omega), show acc + (a.getD x default).X * (a.getD ((x + 1) % a.length) default).Y - (a.getD ((x + 1) % a.length) default).X * (a.getD x default).Y = acc + term (a.getD x default) (a.getD ((x + 1) % a.length) default) by unfold term; omega]
      exact ih2

def area2 (a : List Point) : Int := bif decide (((a.length : Nat) : Int) > 32) then 0 else bif a.all inRange then area a else 0
theorem area_eq (a : List Point) : poly_Area2 a = some (area2 a) ∧ ref09_Area2 a = some (area2 a) := by
  unfold poly_Area2 ref09_Area2 area2 poly_Area2_k1 ref09_Area2_k1
  by_cases h : ((a.length : Nat) : Int) > 32
  · simp [h]
  · rw [decide_eq_false h, poly_range a (by omega), ref_range a (by omega)]
    simp only [cond_false, Option.bind_some]
    cases hr : a.all inRange with
    | false => exact ⟨rfl, rfl⟩
    | true =>
      obtain ⟨h1, h2⟩ := area_loop a hr (by omega) a.length FUEL 0 0 (by omega) (by rw [FUEL_eq]; omega) (by omega) (by omega)
      simp only [show ((0 : Nat) : Int) = 0 from rfl] at h1 h2
      simp only [Bool.not_true, cond_false, cond_true, h1, h2, Option.bind_some]
      exact ⟨rfl, rfl⟩
def chk (a : List Point) : Int := bif decide (((a.length : Nat) : Int) < 3) then 3 else bif decide (((a.length : Nat) : Int) > 32) then 4 else bif !(a.all inRange) then 9 else bif area a == 0 then 19 else 0
theorem chk_eq (a : List Point) : poly_Check a = some (chk a) ∧ ref09_Check a = some (chk a) := by
  unfold poly_Check ref09_Check chk
  by_cases h : ((a.length : Nat) : Int) < 3
  · simp [h]
  by_cases h2 : ((a.length : Nat) : Int) > 32
  · simp [h, h2]
  rw [decide_eq_false h, decide_eq_false h2, poly_range a (by omega), ref_range a (by omega), (area_eq a).1, (area_eq a).2]
  simp only [cond_false, Option.bind_some, area2, decide_eq_false h2]
  cases a.all inRange with
  | false => exact ⟨rfl, rfl⟩
  | true =>
    simp only [Bool.not_true, cond_false, cond_true]
    cases area a == 0 <;> exact ⟨rfl, rfl⟩

def bstep (r : Rect) (p : Point) : Rect := Rect.mk (Span.mk (imin r.X.A p.X) (imax r.X.B p.X)) (Span.mk (imin r.Y.A p.Y) (imax r.Y.B p.Y))
def bounds (a : List Point) : Rect := match a with
  | [] => Rect.mk (Span.mk 0 0) (Span.mk 0 0)
  | p :: l => l.foldl bstep (Rect.mk (Span.mk p.X p.X) (Span.mk p.Y p.Y))
theorem bounds_loop (a : List Point) (hl : a.length ≤ 1000000) : ∀ (n x : Nat) (r : Rect), a.length < x + n → x ≤ a.length → poly_Bounds_L1 a n (x : Int) r = some ((a.drop x).foldl bstep r) ∧ ref09_Bounds_L1 a n (x : Int) r = some ((a.drop x).foldl bstep r)
  | 0, x, r, h1, h2 => by omega
  | n + 1, x, r, h1, h2 => by
    unfold poly_Bounds_L1 ref09_Bounds_L1
    by_cases hx : x < a.length
    · have ih := bounds_loop a hl n (x + 1) (bstep r (a.getD x default)) (by omega) (by omega)
      rw [lt_t (by omega), inb_t (by omega) (by omega), drop_getD a x hx]
      simp only [cond_true, Int.toNat_natCast, inc_eq (show x < 4611686018427387904 by omega), List.foldl_cons]
      exact ih
    · rw [lt_f (by omega), List.drop_of_length_le (by omega)]
      exact ⟨rfl, rfl⟩
theorem imin_self (x : Int) : imin x x = x := by unfold imin; simp
theorem imax_self (x : Int) : imax x x = x := by unfold imax; simp
theorem bounds_eq (a : List Point) (hl : a.length ≤ 1000000) : poly_Bounds a = some (bounds a) ∧ ref09_Bounds a = some (bounds a) := by
  unfold poly_Bounds ref09_Bounds
  cases a with
  | nil => exact ⟨rfl, rfl⟩
  | cons p l =>
    have h0 : ((((p :: l).length : Nat) : Int) == 0) = false := by simp; omega
    have h1 := (bounds_loop (p :: l) hl FUEL 0 (Rect.mk (Span.mk p.X p.X) (Span.mk p.Y p.Y)) (by rw [FUEL_eq]; omega) (by omega)).1
    have h2 := (bounds_loop (p :: l) hl FUEL 1 (Rect.mk (Span.mk p.X p.X) (Span.mk p.Y p.Y)) (by rw [FUEL_eq]; omega) (by simp)).2
    rw [List.drop_zero] at h1
    rw [h0, inb_t (by omega) (by simp)]
    simp only [cond_false, cond_true, Int.toNat_zero, List.getD_cons_zero]
    rw [show ((0 : Nat) : Int) = 0 from rfl] at h1
    rw [show ((1 : Nat) : Int) = 1 from rfl] at h2
    rw [h1, h2]
    refine ⟨?_, rfl⟩
    show some (l.foldl bstep (bstep _ p)) = _
    unfold bstep
    simp only [imin_self, imax_self]
    rfl

theorem PolyChecks_true (a : List Point) : law09_PolyChecks a = some true := by
  unfold law09_PolyChecks law09_few
  simp only [Option.bind_some]
  by_cases h : ((a.length : Nat) : Int) ≤ 100
  · rw [decide_eq_true h]
    simp only [Bool.not_true, cond_false, (chk_eq a).1, (chk_eq a).2, (area_eq a).1, (area_eq a).2, (bounds_eq a (by omega)).1, (bounds_eq a (by omega)).2, Option.bind_some, beq_self_eq_true, cond_true, Bool.and_true, awake_true, law09_PolyChecks_k1]
  · rw [decide_eq_false h]
    simp only [Bool.not_false, cond_true, awake_true, Option.bind_some]
end Saw
end Go.SL

namespace Go.SL
namespace Saw

def cross (p q c : Point) : Int := (q.X - p.X) * (c.Y - p.Y) - (c.X - p.X) * (q.Y - p.Y)
abbrev rng (p : Point) : Prop := (-600 ≤ p.X ∧ p.X ≤ 600) ∧ (-600 ≤ p.Y ∧ p.Y ≤ 600)
theorem cross_neg (p q c : Point) : cross q p c = -cross p q c := by unfold cross; grind
theorem cross_eq {p q c : Point} (hp : rng p) (hq : rng q) (hc : rng c) : poly_cross p q c = some (cross p q c) ∧ ref09_Cross p q c = some (cross p q c) := by
  obtain ⟨⟨p1, p2⟩, p3, p4⟩ := hp
  obtain ⟨⟨q1, q2⟩, q3, q4⟩ := hq
  obtain ⟨⟨c1, c2⟩, c3, c4⟩ := hc
  have m1 := mul_bound (a := q.X - p.X) (b := c.Y - p.Y) (m := 1200) (n := 1200) (by omega) (by omega) (by omega) (by omega) (by decide) (by decide)
  have m2 := mul_bound (a := c.X - p.X) (b := q.Y - p.Y) (m := 1200) (n := 1200) (by omega) (by omega) (by omega) (by omega) (by decide) (by decide)
  unfold poly_cross ref09_Cross cross
  rw [w64_id (n := q.X - p.X) (by omega) (by omega), w64_id (n := c.Y - p.Y) (by omega) (by omega), w64_id (n := c.X - p.X) (by omega) (by omega), w64_id (n := q.Y - p.Y) (by omega) (by omega), Int.mul_comm (q.Y - p.Y) (c.X - p.X),
    w64_id (n := (q.X - p.X) * (c.Y - p.Y)) (by omega) (by omega), w64_id (n := (c.X - p.X) * (q.Y - p.Y)) (by omega) (by omega), w64_id (by omega) (by omega)]
  exact ⟨rfl, rfl⟩

def onE (p q c : Point) : Bool := (cross p q c == 0) && (decide (imin p.X q.X ≤ c.X) && (decide (c.X ≤ imax p.X q.X) && (decide (imin p.Y q.Y ≤ c.Y) && decide (c.Y ≤ imax p.Y q.Y))))
def cro (p q c : Point) : Bool := (decide (p.Y ≤ c.Y) && (decide (c.Y < q.Y) && decide (cross p q c > 0))) || (decide (q.Y ≤ c.Y) && (decide (c.Y < p.Y) && decide (cross p q c < 0)))
def hasS (a : List Point) (c : Point) : Nat → Nat → Bool → Bool ⊕ Bool
  | _, 0, b => .inr b
  | x, m + 1, b => bif onE (a.getD x default) (a.getD ((x + 1) % a.length) default) c then .inl true else hasS a c (x + 1) m (bif cro (a.getD x default) (a.getD ((x + 1) % a.length) default) c then !b else b)

theorem onEdge_eq {p q c : Point} (hp : rng p) (hq : rng q) (hc : rng c) : poly_onEdge p q c = some (onE p q c) := by
  unfold poly_onEdge onE
  rw [(cross_eq hp hq hc).1, Option.bind_some]
  simp only [poly_onEdge_k1]
  cases cross p q c == 0 <;> cases decide (imin p.X q.X ≤ c.X) <;> cases decide (c.X ≤ imax p.X q.X) <;> cases decide (imin p.Y q.Y ≤ c.Y) <;> rfl

theorem k3_eq (rec : Bool → Int → Option (Bool ⊕ Bool)) (x : Int) {p q c : Point} (hp : rng p) (hq : rng q) (hc : rng c) (b : Bool) : (bif decide (p.Y > q.Y) then poly_Has_k3 c b x rec p q else poly_Has_k3 c b x rec q p) = rec (bif cro p q c then !b else b) (w64 (x + 1)) := by
  have hn' := cross_neg p q c
  unfold poly_Has_k3 poly_Has_k4 poly_Has_k5
  rw [(cross_eq hp hq hc).1, (cross_eq hq hp hc).1, hn']
  simp only [Option.bind_some]
  by_cases h1 : p.Y > q.Y
  · rw [decide_eq_true h1]
    simp only [cond_true, cro]
    by_cases e1 : q.Y ≤ c.Y
    · by_cases e2 : c.Y < p.Y
      · have e3 : ¬ p.Y ≤ c.Y := by omega
        by_cases e5 : cross p q c < 0
        · have e6 : -cross p q c > 0 := by omega
          simp [e1, e2, e3, e5]
        · have e6 : ¬ -cross p q c > 0 := by omega
          simp [e1, e2, e3, e5]
      · have e4 : ¬ c.Y < q.Y := by omega
        simp [e1, e2, e4]
    · have e3 : ¬ p.Y ≤ c.Y := by omega
      simp [e1, e3]
  · rw [decide_eq_false h1]
    simp only [cond_false, cro]
    by_cases e1 : p.Y ≤ c.Y
    · by_cases e2 : c.Y < q.Y
      · have e3 : ¬ q.Y ≤ c.Y := by omega
        by_cases e5 : cross p q c > 0
        · have e5' : 0 < cross p q c := e5
          simp [e1, e2, e3, e5']
        · have e5' : ¬ 0 < cross p q c := e5
          simp [e1, e2, e3, e5']
      · have e4 : ¬ c.Y < p.Y := by omega
        simp [e1, e2, e4]
    · have e3 : ¬ q.Y ≤ c.Y := by omega
      simp [e1, e3]
theorem rk3_eq (rec : Bool → Int → Option (Bool ⊕ Bool)) (a : List Point) (x : Int) {p q c : Point} (hpx : a.getD x.toNat default = p) (hqx : a.getD (Int.tmod (w64 (x + 1)) ((a.length : Nat) : Int)).toNat default = q) (hp : rng p) (hq : rng q) (hc : rng c) (b e : Bool) :
    ref09_Has_k3 a c b x rec e = bif e then some (.inl true) else rec (bif cro p q c then !b else b) (w64 (x + 1)) := by
  unfold ref09_Has_k3 ref09_Has_k4 ref09_Has_k5 cro
  rw [hpx, hqx, (cross_eq hp hq hc).2]
  simp only [Option.bind_some]
  cases e with
  | true => rfl
  | false => cases decide (p.Y ≤ c.Y) <;> cases decide (c.Y < q.Y) <;> cases decide (q.Y ≤ c.Y) <;> cases decide (c.Y < p.Y) <;> cases decide (cross p q c > 0) <;> cases decide (cross p q c < 0) <;> rfl
theorem has_loop (a : List Point) (c : Point) (hr : a.all inRange = true) (hc : rng c) (hl : a.length ≤ 1000000) : ∀ (m n x : Nat) (b : Bool), x + m = a.length → m < n → poly_Has_L2 a c n b (x : Int) = some (hasS a c x m b) ∧ ref09_Has_L2 a c n b (x : Int) = some (hasS a c x m b)
  | _, 0, x, _, _, hn => by omega
  | 0, n + 1, x, b, hx, _ => by
    unfold poly_Has_L2 ref09_Has_L2 hasS
    rw [lt_f (by omega)]
    exact ⟨rfl, rfl⟩
  | m + 1, n + 1, x, b, hx, hn => by
    have hlen : 0 < a.length := by omega
    have hy : (x + 1) % a.length < a.length := Nat.mod_lt _ hlen
    have hnx := nxt_eq hlen (show x < 4611686018427387904 by omega)
    obtain ⟨p, hpx⟩ : ∃ p, a.getD x default = p := ⟨_, rfl⟩
    obtain ⟨q, hqx⟩ : ∃ q, a.getD ((x + 1) % a.length) default = q := ⟨_, rfl⟩
    have hpx' : a.getD (x : Int).toNat default = p := by rw [Int.toNat_natCast]; exact hpx
    have hqx' : a.getD (Int.tmod (w64 ((x : Int) + 1)) ((a.length : Nat) : Int)).toNat default = q := by rw [hnx, Int.toNat_natCast]; exact hqx
    have hp : rng p := by rw [← hpx]; exact all_range hr (show x < a.length by omega)
    have hq : rng q := by rw [← hqx]; exact all_range hr hy
    have ih := has_loop a c hr hc hl m n (x + 1) (bif cro p q c then !b else b) (by omega) (by omega)
    have hi : inb (Int.tmod (w64 ((x : Int) + 1)) ((a.length : Nat) : Int)) a.length = true := by rw [hnx]; exact inb_t (by omega) (by omega)
    have hinc : w64 ((x : Int) + 1) = ((x + 1 : Nat) : Int) := inc_eq (by omega)
    have hS : hasS a c x (m + 1) b = bif onE p q c then .inl true else hasS a c (x + 1) m (bif cro p q c then !b else b) := by rw [hasS, hpx, hqx]
    rw [hS]
    constructor
    · unfold poly_Has_L2
      rw [lt_t (by omega), inb_t (i := (x : Int)) (by omega) (by omega), nz_t (by omega), hi, hpx', hqx', onEdge_eq hp hq hc]
      simp only [cond_true, Option.bind_some]
      rw [k3_eq _ _ hp hq hc, hinc, ih.1]
      cases onE p q c <;> rfl
    · unfold ref09_Has_L2
      rw [lt_t (by omega), inb_t (i := (x : Int)) (by omega) (by omega), nz_t (by omega), hi, hpx', hqx', (cross_eq hp hq hc).2]
      simp only [cond_true, Option.bind_some, rk3_eq _ a (x : Int) hpx' hqx' hp hq hc, hinc, ih.2]
      unfold onE
      cases cross p q c == 0 <;> cases decide (imin p.X q.X ≤ c.X) <;> cases decide (c.X ≤ imax p.X q.X) <;> cases decide (imin p.Y q.Y ≤ c.Y) <;> cases decide (c.Y ≤ imax p.Y q.Y) <;> rfl

def has (a : List Point) (c : Point) : Bool := bif chk a == 0 && inRange c then Sum.elim id id (hasS a c 0 a.length false) else false
theorem chk_facts {a : List Point} (h : chk a = 0) : 3 ≤ a.length ∧ a.length ≤ 32 ∧ a.all inRange = true ∧ area a ≠ 0 := by
  unfold chk at h
  by_cases h1 : ((a.length : Nat) : Int) < 3
  · rw [decide_eq_true h1] at h; cases h
  rw [decide_eq_false h1] at h
  by_cases h2 : ((a.length : Nat) : Int) > 32
  · rw [decide_eq_true h2] at h; cases h
  rw [decide_eq_false h2] at h
  cases h3 : a.all inRange with
  | false => rw [h3] at h; cases h
  | true =>
    rw [h3] at h
    refine ⟨by omega, by omega, rfl, fun h4 => ?_⟩
    rw [h4] at h; cases h
theorem has_eq (a : List Point) (c : Point) : poly_Has a c = some (has a c) ∧ ref09_Has a c = some (has a c) := by
  unfold poly_Has ref09_Has has poly_Has_k1 ref09_Has_k1
  rw [(chk_eq a).1, (chk_eq a).2, ref_range [c] (by simp), within_eq, within_eq]
  simp only [Option.bind_some, List.all_cons, List.all_nil, Bool.and_true]
  cases h : chk a == 0 with
  | false =>
    have : (chk a != 0) = true := by simp only [bne, h]; rfl
    rw [this]
    exact ⟨rfl, rfl⟩
  | true =>
    have : (chk a != 0) = false := by simp only [bne, h]; rfl
    have h0 : chk a = 0 := by simpa using h
    obtain ⟨l1, l2, hr, _⟩ := chk_facts h0
    rw [this]
    cases hc : inRange c with
    | false =>
      unfold inRange at hc
      simp only [Bool.and_false, cond_false, Bool.not_false, cond_true]
      refine ⟨?_, trivial⟩
      cases hx : (decide (-600 ≤ c.X) && decide (c.X ≤ 600)) with
      | false => rfl
      | true => rw [hx, Bool.true_and] at hc; rw [hc]; rfl
    | true =>
      have hcr : rng c := inRange_iff.1 hc
      obtain ⟨e1, e2⟩ := has_loop a c hr hcr (by omega) a.length FUEL 0 false (by omega) (by rw [FUEL_eq]; omega)
      rw [show ((0 : Nat) : Int) = 0 from rfl] at e1 e2
      unfold inRange at hc
      rw [Bool.and_eq_true] at hc
      simp only [hc.1, hc.2, cond_false, Bool.not_true, e1, e2, Option.bind_some, Bool.and_true, cond_true]
      cases hasS a c 0 a.length false <;> exact ⟨rfl, rfl⟩

theorem PolyHas_true (a : List Point) (c : Point) : law09_PolyHas a c = some true := by
  unfold law09_PolyHas law09_few
  simp only [Option.bind_some]
  by_cases h : ((a.length : Nat) : Int) ≤ 100
  · rw [decide_eq_true h]
    simp only [Bool.not_true, cond_false, (has_eq a c).1, (has_eq a c).2, Option.bind_some, beq_self_eq_true, cond_true, awake_true, law09_PolyHas_k1]
  · rw [decide_eq_false h]
    simp only [Bool.not_false, cond_true, awake_true, Option.bind_some]
end Saw
end Go.SL

namespace Go.SL

theorem ext_getD {α : Type} [Inhabited α] {l t : List α} (h : l.length = t.length) (hj : ∀ j, j < l.length → l.getD j default = t.getD j default) : l = t := by
  apply List.ext_getElem h
  intro i h1 h2
  have := hj i h1
  rwa [List.getD_eq_getElem?_getD, List.getD_eq_getElem?_getD, List.getElem?_eq_getElem h1, List.getElem?_eq_getElem h2] at this
theorem getD_set_eq {α : Type} [Inhabited α] {l : List α} {x : Nat} (v : α) (h : x < l.length) : (l.set x v).getD x default = v := by
  rw [List.getD_eq_getElem?_getD, List.getElem?_set_self h]; rfl
theorem getD_set_ne {α : Type} [Inhabited α] {l : List α} {x j : Nat} (v : α) (h : x ≠ j) : (l.set x v).getD j default = l.getD j default := by
  rw [List.getD_eq_getElem?_getD, List.getElem?_set_ne h, ← List.getD_eq_getElem?_getD]
theorem getD_map {α β : Type} [Inhabited α] [Inhabited β] (f : α → β) (l : List α) {j : Nat} (h : j < l.length) : (l.map f).getD j default = f (l.getD j default) := by
  rw [List.getD_eq_getElem?_getD, List.getD_eq_getElem?_getD, List.getElem?_map, List.getElem?_eq_getElem h]; rfl

theorem quarter_ex (r : Int) : ∃ q : Nat, q < 4 ∧ Int.tmod (w64 (Int.tmod r 4 + 4)) 4 = (q : Int) := by
  have h1 := Int.tmod_lt_of_pos r (show (0 : Int) < 4 by decide)
  have h2 : -4 < Int.tmod r 4 := by
    rcases Int.le_total 0 r with h | h
    · have := Int.tmod_nonneg 4 h; omega
    · have := Int.tmod_nonneg 4 (show 0 ≤ -r by omega)
      have h3 := Int.tmod_lt_of_pos (-r) (show (0 : Int) < 4 by decide)
      rw [Int.neg_tmod] at this h3
      omega
  rw [w64_id (by omega) (by omega)]
  obtain ⟨n, hn⟩ := Int.eq_ofNat_of_zero_le (show 0 ≤ Int.tmod r 4 + 4 by omega)
  rw [hn]
  exact ⟨n % 4, Nat.mod_lt _ (by decide), rfl⟩


theorem mkOk_t {n b : Nat} (h : n * b ≤ 140737488355328) (hn : n ≤ 9223372036854775807) : mkOk ((n : Nat) : Int) b = true := by
  unfold mkOk
  exact decide_eq_true ⟨Int.natCast_nonneg n, by rw [← Int.natCast_mul, Nat.mul_comm]; exact Int.ofNat_le.2 h, Int.ofNat_le.2 hn⟩
end Go.SL

namespace Go.SL
namespace Saw

/-- Points in the order of X, then Y. -/
def pLt (p q : Point) : Prop := p.X < q.X ∨ (p.X = q.X ∧ p.Y < q.Y)
instance (p q : Point) : Decidable (pLt p q) := inferInstanceAs (Decidable (_ ∨ _))
def pLe (p q : Point) : Bool := !decide (pLt q p)
theorem pt_ext {p q : Point} (h1 : p.X = q.X) (h2 : p.Y = q.Y) : p = q := by cases p; cases q; simp_all
theorem pLt_irrefl (p : Point) : ¬ pLt p p := by unfold pLt; omega
theorem pLt_trans {p q r : Point} (h1 : pLt p q) (h2 : pLt q r) : pLt p r := by unfold pLt at *; omega
theorem pLt_tri (p q : Point) : pLt p q ∨ p = q ∨ pLt q p := by
  by_cases h1 : pLt p q
  · exact .inl h1
  by_cases h2 : pLt q p
  · exact .inr (.inr h2)
  unfold pLt at *
  exact .inr (.inl (pt_ext (by omega) (by omega)))
theorem pLt_asymm {p q : Point} (h1 : pLt p q) : ¬ pLt q p := fun h2 => pLt_irrefl _ (pLt_trans h1 h2)
theorem pLe_iff {p q : Point} : pLe p q = true ↔ pLt p q ∨ p = q := by
  unfold pLe
  simp only [Bool.not_eq_true', decide_eq_false_iff_not]
  refine ⟨fun h => ?_, fun h => ?_⟩
  · rcases pLt_tri p q with h1 | h1 | h1
    · exact .inl h1
    · exact .inr h1
    · exact absurd h1 h
  · rcases h with h | rfl
    · exact pLt_asymm h
    · exact pLt_irrefl _
theorem cmp_lt (p q : Point) : (poly_Hull_1 p q).getD 0 < 0 ↔ pLt p q := by
  rw [poly_Hull_1_eq]
  have := ltPt p q
  unfold Go.Proofs.ltOf at this
  have h2 := decide_eq_decide.1 this
  exact h2
theorem sort_eq (a : List Point) : sortBy poly_Hull_1 a = sortB pLe a := by
  unfold sortBy
  congr 1
  funext x y
  unfold pLe
  congr 1
  exact decide_eq_decide.2 (cmp_lt y x)

abbrev StrictS (l : List Point) : Prop := l.Pairwise pLt
/-- Two strictly ascending lists with the same members are one. -/
theorem strict_unique : ∀ {l t : List Point}, StrictS l → StrictS t → (∀ p, p ∈ l ↔ p ∈ t) → l = t
  | [], [], _, _, _ => rfl
  | [], q :: t, _, _, h => by have := (h q).2 List.mem_cons_self; cases this
  | p :: l, [], _, _, h => by have := (h p).1 List.mem_cons_self; cases this
  | p :: l, q :: t, hl, ht, h => by
    obtain ⟨l1, l2⟩ := List.pairwise_cons.1 hl
    obtain ⟨t1, t2⟩ := List.pairwise_cons.1 ht
    have e : p = q := by
      rcases List.mem_cons.1 ((h p).1 List.mem_cons_self) with h1 | h1
      · exact h1
      · rcases List.mem_cons.1 ((h q).2 List.mem_cons_self) with h2 | h2
        · exact h2.symm
        · exact absurd (t1 p h1) (pLt_asymm (l1 q h2))
    subst e
    congr 1
    refine strict_unique l2 t2 (fun r => ⟨fun hr => ?_, fun hr => ?_⟩)
    · rcases List.mem_cons.1 ((h r).1 (List.mem_cons_of_mem _ hr)) with rfl | h1
      · exact absurd (l1 r hr) (pLt_irrefl _)
      · exact h1
    · rcases List.mem_cons.1 ((h r).2 (List.mem_cons_of_mem _ hr)) with rfl | h1
      · exact absurd (t1 r hr) (pLt_irrefl _)
      · exact h1

/-- As the code compares points. -/
def peq (p q : Point) : Bool := (p.X == q.X) && ((p.Y == q.Y) && true)
theorem peq_iff {p q : Point} : peq p q = true ↔ p = q := by
  unfold peq
  simp only [Bool.and_eq_true, beq_iff_eq, and_true]
  exact ⟨fun h => pt_ext h.1 h.2, fun h => by subst h; exact ⟨rfl, rfl⟩⟩
/-- The first m of l, without those that are like the one ahead of them. -/
def ddT (l : List Point) : Nat → List Point
  | 0 => []
  | m + 1 => ddT l m ++ (bif !(Nat.beq m 0) && peq (l.getD m default) (l.getD (m - 1) default) then [] else [l.getD m default])
theorem ddT_len (l : List Point) : ∀ m, (ddT l m).length ≤ m
  | 0 => Nat.le_refl _
  | m + 1 => by
    have := ddT_len l m
    unfold ddT
    rw [List.length_append]
    cases (!(Nat.beq m 0) && peq (l.getD m default) (l.getD (m - 1) default)) <;> simp <;> omega
theorem ddT_mem (l : List Point) : ∀ m, m ≤ l.length → ∀ p, p ∈ ddT l m ↔ p ∈ l.take m
  | 0, _, p => by simp [ddT]
  | m + 1, hm, p => by
    have hx : m < l.length := by omega
    have ht : l.take (m + 1) = l.take m ++ [l.getD m default] := by
      rw [List.take_add_one, List.getElem?_eq_getElem hx, List.getD_eq_getElem?_getD, List.getElem?_eq_getElem hx]; rfl
    unfold ddT
    rw [List.mem_append, ddT_mem l m (by omega), ht, List.mem_append]
    cases h : (!(Nat.beq m 0) && peq (l.getD m default) (l.getD (m - 1) default)) with
    | false => simp
    | true =>
      rw [Bool.and_eq_true] at h
      have h0 : m ≠ 0 := fun e => by rw [e] at h; cases h.1
      have he := peq_iff.1 h.2
      simp only [cond_true, List.not_mem_nil, or_false, List.mem_singleton]
      refine ⟨.inl, fun h' => h'.elim id fun e => ?_⟩
      rw [e, he, List.mem_take_iff_getElem]
      exact ⟨m - 1, by omega, by rw [List.getD_eq_getElem?_getD, List.getElem?_eq_getElem (by omega)]; rfl⟩
theorem ddT_strict (l : List Point) (hs : l.Pairwise (fun a b => pLe a b = true)) : ∀ m, m ≤ l.length → StrictS (ddT l m)
  | 0, _ => List.Pairwise.nil
  | m + 1, hm => by
    have hx : m < l.length := by omega
    unfold ddT
    cases h : (!(Nat.beq m 0) && peq (l.getD m default) (l.getD (m - 1) default)) with
    | true => simp only [cond_true, List.append_nil]; exact ddT_strict l hs m (by omega)
    | false =>
      simp only [cond_false]
      refine List.pairwise_append.2 ⟨ddT_strict l hs m (by omega), List.pairwise_singleton _ _, fun p hp q hq => ?_⟩
      rw [List.mem_singleton] at hq
      subst hq
      rw [ddT_mem l m (by omega)] at hp
      have hm0 : m ≠ 0 := fun e => by subst e; simp at hp
      obtain ⟨j, hj, rfl⟩ := List.mem_take_iff_getElem.1 hp
      have hj' : j < m := by omega
      have g : ∀ i (hi : i < l.length), l.getD i default = l[i] := fun i hi => by rw [List.getD_eq_getElem?_getD, List.getElem?_eq_getElem hi]; rfl
      have hb : Nat.beq m 0 = false := by cases m with | zero => exact absurd rfl hm0 | succ m => rfl
      rw [hb, Bool.not_false, Bool.true_and] at h
      have hne : ¬ l.getD m default = l.getD (m - 1) default := fun e => by rw [peq_iff.2 e] at h; cases h
      rw [List.pairwise_iff_getElem] at hs
      have s1 := pLe_iff.1 (hs (m - 1) m (by omega) hx (by omega))
      rw [g m hx, g (m - 1) (by omega)] at hne
      rw [g m hx]
      have s2 : pLt l[m - 1] l[m] := s1.resolve_right (fun e => hne e.symm)
      by_cases hjm : j = m - 1
      · subst hjm; exact s2
      · rcases pLe_iff.1 (hs j (m - 1) (by omega) (by omega) (by omega)) with h1 | h1
        · exact pLt_trans h1 s2
        · rw [h1]; exact s2

theorem compact_L2 (l : List Point) (x : Nat) (hl : l.length ≤ 1000000) (hx : 0 < x) (hxl : x < l.length) : ∀ (n k i : Nat) (t : List Point), l.length - x < k + n → 0 < k → k ≤ l.length - x → t.length = l.length → i ≤ x + k - 1 → t.take i = ddT l (x + k) → i = (ddT l (x + k)).length →
    (∀ j, x + k - 1 ≤ j → j < l.length → t.getD j default = l.getD j default) → ∃ t' : List Point, slices_Compact_SPoint_L2 l (x : Int) n t (i : Int) (k : Int) = some (t', (((ddT l l.length).length : Nat) : Int)) ∧ t'.length = l.length ∧ t'.take (ddT l l.length).length = ddT l l.length
  | 0, k, i, t, h1, _, h2, _, _, _, _, _ => by omega
  | n + 1, k, i, t, h1, hk, h2, h3, h4, h5, h5', h6 => by
    unfold slices_Compact_SPoint_L2
    simp only [Int.toNat_natCast]
    by_cases hkl : k < l.length - x
    · have e1 : w64 ((k : Int) - 1) = ((k - 1 : Nat) : Int) := by rw [w64_id (by omega) (by omega)]; omega
      have hb : Nat.ble (x + (l.length - x)) t.length = true := by rw [Nat.ble_eq]; omega
      rw [lt_t (by omega), inb_t (by omega) (by omega), hb, e1, inb_t (by omega) (by omega)]
      simp only [cond_true, Int.toNat_natCast, slices_Compact_SPoint_k3, inc_eq (show k < 4611686018427387904 by omega), inc_eq (show i < 4611686018427387904 by omega)]
      have g1 : t.getD (x + k) default = l.getD (x + k) default := h6 _ (by omega) (by omega)
      have g2 : t.getD (x + (k - 1)) default = l.getD (x + k - 1) default := by rw [show x + (k - 1) = x + k - 1 by omega]; exact h6 _ (by omega) (by omega)
      have hbq : Nat.beq (x + k) 0 = false := by rw [show x + k = (x + k - 1) + 1 by omega]; rfl
      have hdd : ddT l (x + (k + 1)) = ddT l (x + k) ++ (bif peq (l.getD (x + k) default) (l.getD (x + k - 1) default) then [] else [l.getD (x + k) default]) := by
        rw [show x + (k + 1) = (x + k) + 1 by omega, ddT, hbq]; rfl
      rw [g1, g2]
      cases hp : peq (l.getD (x + k) default) (l.getD (x + k - 1) default) with
      | true =>
        have hp' := hp
        unfold peq at hp'
        rw [hp] at hdd
        simp only [cond_true, List.append_nil] at hdd
        rw [hp']
        simp only [Bool.not_true, cond_false]
        exact compact_L2 l x hl hx hxl n (k + 1) i t (by omega) (by omega) (by omega) h3 (by omega) (by rw [hdd]; exact h5) (by rw [hdd]; exact h5') (fun j hj1 hj2 => h6 j (by omega) hj2)
      | false =>
        have hp' := hp
        unfold peq at hp'
        rw [hp] at hdd
        simp only [cond_false] at hdd
        rw [hp', inb_t (by omega) (by omega)]
        simp only [Bool.not_false, cond_true]
        refine compact_L2 l x hl hx hxl n (k + 1) (i + 1) _ (by omega) (by omega) (by omega) (by rw [List.length_set]; exact h3) (by omega) ?_ (by rw [hdd, List.length_append, ← h5']; rfl) (fun j hj1 hj2 => by rw [getD_set_ne _ (by omega)]; exact h6 j (by omega) hj2)
        rw [hdd, ← h5, List.take_add_one, List.getElem?_set_self (by omega), List.take_set_of_le (Nat.le_refl _)]
        rfl
    · have hkk : x + k = l.length := by omega
      rw [lt_f (by omega)]
      rw [hkk] at h5 h5'
      exact ⟨t, by simp only [cond_false]; rw [h5'], h3, by rw [← h5']; exact h5⟩
theorem compact_L1 (l : List Point) (hl : l.length ≤ 1000000) : ∀ (n x : Nat), l.length < x + n → 0 < x → x ≤ l.length → ddT l x = l.take x → (slices_Compact_SPoint_L1 n l (x : Int) = some (.inl (ddT l l.length, ddT l l.length))) ∨ (slices_Compact_SPoint_L1 n l (x : Int) = some (.inr l) ∧ ddT l l.length = l)
  | 0, x, h1, _, h2, _ => by omega
  | n + 1, x, h1, h0, h2, h3 => by
    unfold slices_Compact_SPoint_L1
    by_cases hx : x < l.length
    · have e1 : w64 ((x : Int) - 1) = ((x - 1 : Nat) : Int) := by rw [w64_id (by omega) (by omega)]; omega
      have hbq : Nat.beq x 0 = false := by rw [show x = (x - 1) + 1 by omega]; rfl
      have hlen : (ddT l x).length = x := by rw [h3]; simp; omega
      rw [lt_t (by omega), e1, inb_t (by omega) (by omega), inb_t (by omega) (by omega)]
      simp only [cond_true, Int.toNat_natCast, inc_eq (show x < 4611686018427387904 by omega)]
      cases hp : peq (l.getD x default) (l.getD (x - 1) default) with
      | true =>
        have hp' := hp
        unfold peq at hp'
        have hdd : ddT l (x + 1) = ddT l x := by rw [ddT, hbq, hp]; simp
        have hsl : slOk (x : Int) ((l.length : Nat) : Int) l.length = true := by unfold slOk; exact decide_eq_true ⟨by omega, by omega, by omega⟩
        obtain ⟨t', e2, e3, e4⟩ := compact_L2 l x hl h0 hx FUEL 1 x l (by rw [FUEL_eq]; omega) (by omega) (by omega) rfl (by omega) (by rw [hdd, h3]) (by rw [hdd, hlen]) (fun j _ _ => rfl)
        have hle := ddT_len l l.length
        have s1 : slOk (((ddT l l.length).length : Nat) : Int) ((t'.length : Nat) : Int) t'.length = true := by unfold slOk; exact decide_eq_true ⟨by omega, by omega, by omega⟩
        have s2 : slOk 0 (((ddT l l.length).length : Nat) : Int) t'.length = true := by unfold slOk; exact decide_eq_true ⟨by omega, by omega, by omega⟩
        rw [show ((1 : Nat) : Int) = 1 from rfl] at e2
        rw [hp', hsl, e2]
        simp only [cond_true, Option.bind_some, s1, s2, Int.toNat_natCast, e4]
        exact .inl trivial
      | false =>
        have hp' := hp
        unfold peq at hp'
        rw [hp']
        simp only [cond_false]
        refine compact_L1 l hl n (x + 1) (by omega) (by omega) (by omega) ?_
        rw [ddT, hbq, hp, h3, List.take_add_one, List.getElem?_eq_getElem hx, List.getD_eq_getElem?_getD, List.getElem?_eq_getElem hx]
        rfl
    · rw [lt_f (by omega)]
      have : x = l.length := by omega
      rw [this, List.take_length] at h3
      exact .inr ⟨rfl, h3⟩
theorem compact_eq (l : List Point) (hl : l.length ≤ 1000000) : slices_Compact_SPoint l = some (ddT l l.length, ddT l l.length) := by
  unfold slices_Compact_SPoint
  by_cases h : ((l.length : Nat) : Int) < 2
  · rw [decide_eq_true h]
    have : ddT l l.length = l := by
      match l, h with
      | [], _ => rfl
      | [p], _ => rfl
      | p :: q :: r, h => simp at h; omega
    rw [this]; rfl
  · rw [decide_eq_false h]
    have h1 : ddT l 1 = l.take 1 := by
      match l, h with
      | [], h => exact absurd (by decide) h
      | p :: r, _ => rfl
    rcases compact_L1 l hl FUEL 1 (by rw [FUEL_eq]; omega) (by omega) (by omega) h1 with h2 | ⟨h2, h3⟩
    · rw [show ((1 : Nat) : Int) = 1 from rfl] at h2
      rw [h2]; rfl
    · rw [show ((1 : Nat) : Int) = 1 from rfl] at h2
      rw [h2, h3]; rfl
end Saw
end Go.SL

namespace Go.SL
namespace Saw

theorem before_eq (p q : Point) : ref09_Before p q = some (decide (pLt p q)) := by
  unfold ref09_Before ref09_Before_k1 pLt
  by_cases h1 : p.X < q.X
  · simp [h1]
  · by_cases h2 : p.X = q.X
    · simp [h1, h2]
    · have : (p.X == q.X) = false := by simpa using h2
      simp [h1, h2, this]
theorem find_loop (a l : List Point) (x : Nat) (hl : l.length ≤ 1000000) (hx : x < a.length) : ∀ (n k : Nat), l.length < k + n → k ≤ l.length → (∀ j, j < k → pLt (l.getD j default) (a.getD x default)) →
    ∃ k', ref09_sorted_L2 a l (x : Int) n (k : Int) = some ((k' : Nat) : Int) ∧ k' ≤ l.length ∧ (∀ j, j < k' → pLt (l.getD j default) (a.getD x default)) ∧ (k' < l.length → ¬ pLt (l.getD k' default) (a.getD x default))
  | 0, k, h1, h2, _ => by omega
  | n + 1, k, h1, h2, h3 => by
    unfold ref09_sorted_L2
    by_cases hk : k < l.length
    · rw [lt_t (by omega), inb_t (by omega) (by omega), inb_t (by omega) (by omega)]
      simp only [cond_true, Int.toNat_natCast, before_eq, Option.bind_some, ref09_sorted_k3, inc_eq (show k < 4611686018427387904 by omega)]
      by_cases hp : pLt (l.getD k default) (a.getD x default)
      · rw [decide_eq_true hp]
        exact find_loop a l x hl hx n (k + 1) (by omega) (by omega) (fun j hj => by
          by_cases hjk : j = k
          · subst hjk; exact hp
          · exact h3 j (by omega))
      · rw [decide_eq_false hp]
        exact ⟨k, rfl, h2, h3, fun _ => hp⟩
    · rw [lt_f (by omega)]
      exact ⟨k, rfl, h2, h3, fun h => absurd h hk⟩
theorem getD_el' {α : Type} [Inhabited α] {l : List α} {i : Nat} (h : i < l.length) : l.getD i default = l[i] := by rw [List.getD_eq_getElem?_getD, List.getElem?_eq_getElem h]; rfl
theorem sorted_loop (a : List Point) (hl : a.length ≤ 1000000) : ∀ (n x : Nat) (l : List Point), a.length < x + n → x ≤ a.length → l.length ≤ x → StrictS l → (∀ p, p ∈ l ↔ p ∈ a.take x) → ∃ s, ref09_sorted_L1 a n l (x : Int) = some s ∧ StrictS s ∧ (∀ p, p ∈ s ↔ p ∈ a) ∧ s.length ≤ a.length
  | 0, x, l, h1, h2, _, _, _ => by omega
  | n + 1, x, l, h1, h2, h3, h4, h5 => by
    unfold ref09_sorted_L1
    by_cases hx : x < a.length
    · obtain ⟨k, e1, e2, e3, e4⟩ := find_loop a l x (by omega) hx FUEL 0 (by rw [FUEL_eq]; omega) (by omega) (fun j hj => by omega)
      have ht : a.take (x + 1) = a.take x ++ [a.getD x default] := by rw [List.take_add_one, List.getElem?_eq_getElem hx, getD_el' hx]; rfl
      rw [show ((0 : Nat) : Int) = 0 from rfl] at e1
      rw [lt_t (by omega), e1]
      simp only [cond_true, Option.bind_some, ref09_sorted_k4, ref09_sorted_k5, Int.toNat_natCast, inc_eq (show x < 4611686018427387904 by omega)]
      have s1 : slOk 0 ((k : Nat) : Int) l.length = true := by unfold slOk; exact decide_eq_true ⟨by omega, by omega, by omega⟩
      have s2 : slOk ((k : Nat) : Int) ((l.length : Nat) : Int) l.length = true := by unfold slOk; exact decide_eq_true ⟨by omega, by omega, by omega⟩
      rw [s1, s2, room_t (n := 0 + k) (by omega), room_t (n := 0 + k + 1) (by omega), room_t (n := 0 + k + 1 + (l.length - k)) (by omega), inb_t (i := (x : Int)) (by omega) (by omega)]
      simp only [cond_true, List.nil_append]
      have hins : ¬ (k < l.length ∧ peq (l.getD k default) (a.getD x default) = true) → ∃ s, ref09_sorted_L1 a n (l.take k ++ [a.getD x default] ++ (l.drop k).take (l.length - k)) ((x + 1 : Nat) : Int) = some s ∧ StrictS s ∧ (∀ p, p ∈ s ↔ p ∈ a) ∧ s.length ≤ a.length := by
        intro hne
        have hdr : (l.drop k).take (l.length - k) = l.drop k := List.take_of_length_le (by simp)
        rw [hdr]
        have hall : ∀ p ∈ l.drop k, pLt (a.getD x default) p := by
          intro p hp
          obtain ⟨j, hj, rfl⟩ := List.mem_iff_getElem.1 hp
          rw [List.length_drop] at hj
          rw [List.getElem_drop]
          have hk : k < l.length := by omega
          have hc : pLt (a.getD x default) (l.getD k default) := by
            rcases pLt_tri (l.getD k default) (a.getD x default) with h | h | h
            · exact absurd h (e4 hk)
            · exact absurd ⟨hk, peq_iff.2 h⟩ hne
            · exact h
          rw [getD_el' hk] at hc
          by_cases hj0 : j = 0
          · subst hj0; exact hc
          · have h4' := List.pairwise_iff_getElem.1 h4
            exact pLt_trans hc (h4' k (k + j) hk (by omega) (by omega))
        have htk : ∀ p ∈ l.take k, pLt p (a.getD x default) := by
          intro p hp
          obtain ⟨j, hj, rfl⟩ := List.mem_take_iff_getElem.1 hp
          have := e3 j (by omega)
          rwa [getD_el' (by omega)] at this
        refine sorted_loop a hl n (x + 1) _ (by omega) (by omega) (by simp; omega) ?_ (fun p => ?_)
        · refine List.pairwise_append.2 ⟨List.pairwise_append.2 ⟨h4.take, List.pairwise_singleton _ _, fun p hp q hq => ?_⟩, h4.drop, fun p hp q hq => ?_⟩
          · rw [List.mem_singleton] at hq; subst hq; exact htk p hp
          · rcases List.mem_append.1 hp with hp | hp
            · exact pLt_trans (htk p hp) (hall q hq)
            · rw [List.mem_singleton] at hp; subst hp; exact hall q hq
        · rw [ht, List.mem_append, List.mem_append, List.mem_append, ← h5 p]
          have : p ∈ l ↔ p ∈ l.take k ∨ p ∈ l.drop k := by rw [← List.mem_append, List.take_append_drop]
          rw [this]
          constructor
          · rintro ((h | h) | h)
            · exact .inl (.inl h)
            · exact .inr h
            · exact .inl (.inr h)
          · rintro ((h | h) | h)
            · exact .inl (.inl h)
            · exact .inr h
            · exact .inl (.inr h)
      by_cases hk : k < l.length
      · rw [lt_t (by omega), inb_t (by omega) (by omega)]
        simp only [cond_true]
        cases hp : peq (l.getD k default) (a.getD x default) with
        | true =>
          have hp' := hp
          unfold peq at hp'
          rw [hp']
          simp only [cond_true]
          refine sorted_loop a hl n (x + 1) l (by omega) (by omega) (by omega) h4 (fun p => ?_)
          rw [ht, List.mem_append, ← h5 p, List.mem_singleton]
          refine ⟨.inl, fun h => h.elim id fun e => ?_⟩
          rw [e, ← peq_iff.1 hp]
          exact getD_mem' hk
        | false =>
          have hp' := hp
          unfold peq at hp'
          rw [hp']
          simp only [cond_false]
          exact hins (fun h => by rw [hp] at h; cases h.2)
      · rw [lt_f (by omega)]
        simp only [cond_false]
        exact hins (fun h => hk h.1)
    · rw [lt_f (by omega)]
      rw [List.take_of_length_le (by omega)] at h5
      exact ⟨l, rfl, h4, h5, by omega⟩

/-- The points, each once, in order. -/
def srt (a : List Point) : List Point := ddT (sortB pLe a) (sortB pLe a).length
theorem pLe_trans (x y z : Point) (h1 : pLe x y = true) (h2 : pLe y z = true) : pLe x z = true := by
  rw [pLe_iff] at *
  rcases h1 with h1 | rfl
  · rcases h2 with h2 | rfl
    · exact .inl (pLt_trans h1 h2)
    · exact .inl h1
  · exact h2
theorem pLe_total (x y : Point) : pLe x y = true ∨ pLe y x = true := by
  rw [pLe_iff, pLe_iff]
  rcases pLt_tri x y with h | h | h
  · exact .inl (.inl h)
  · exact .inl (.inr h)
  · exact .inr (.inl h)
theorem srt_strict (a : List Point) : StrictS (srt a) := ddT_strict _ (sortB_sorted pLe_trans pLe_total a) _ (Nat.le_refl _)
theorem srt_mem (a : List Point) (p : Point) : p ∈ srt a ↔ p ∈ a := by
  unfold srt
  rw [ddT_mem _ _ (Nat.le_refl _), List.take_length]
  exact (sortB_perm pLe a).mem_iff
theorem srt_len (a : List Point) : (srt a).length ≤ a.length := by
  have := ddT_len (sortB pLe a) (sortB pLe a).length
  have h2 := (sortB_perm pLe a).length_eq
  unfold srt; omega
theorem refSorted_eq (a : List Point) (hl : a.length ≤ 1000000) : ref09_sorted a = some (srt a) := by
  unfold ref09_sorted
  obtain ⟨s, e1, e2, e3, _⟩ := sorted_loop a hl FUEL 0 [] (by rw [FUEL_eq]; omega) (by omega) (by simp) List.Pairwise.nil (fun p => by simp)
  rw [show ((0 : Nat) : Int) = 0 from rfl] at e1
  rw [e1, Option.bind_some]
  congr 1
  exact strict_unique e2 (srt_strict a) (fun p => by rw [e3, srt_mem])
end Saw
end Go.SL
