/- Poly's plain mathematics, part 38: turning and mirroring a polygon. -/
import Derived.Test.YtcppgjcniljkcaaDoorPMa5
set_option linter.unusedVariables false
set_option linter.unusedSimpArgs false
namespace Go.SL
namespace Saw

theorem ep_map (T : Point → Point) (a : List Point) {i : Nat} (hi : i < a.length) : Ep (a.map T) i = T (Ep a i) := getD_map T a hi
theorem eq_map (T : Point → Point) (a : List Point) (hn : 0 < a.length) (i : Nat) : Eq' (a.map T) i = T (Eq' a i) := by
  show (a.map T).getD ((i + 1) % (a.map T).length) default = T (a.getD ((i + 1) % a.length) default)
  rw [List.length_map]
  exact getD_map T a (Nat.mod_lt _ hn)
theorem ep_rev (T : Point → Point) (a : List Point) {i : Nat} (hi : i < a.length) : Ep ((a.map T).reverse) i = T (Ep a (a.length - 1 - i)) := by
  show ((a.map T).reverse).getD i default = _
  rw [List.getD_eq_getElem?_getD, List.getElem?_reverse (by simpa using hi), ← List.getD_eq_getElem?_getD, List.length_map]
  exact getD_map T a (by omega)
theorem eq_rev (T : Point → Point) (a : List Point) (hn : 0 < a.length) (i : Nat) : Eq' ((a.map T).reverse) i = T (Ep a (a.length - 1 - (i + 1) % a.length)) := by
  show Ep ((a.map T).reverse) ((i + 1) % ((a.map T).reverse).length) = _
  rw [List.length_reverse, List.length_map]
  exact ep_rev T a (Nat.mod_lt _ hn)
/-! ### The area -/
theorem areaS_sum (a : List Point) : ∀ (m x : Nat) (acc : Int), areaS a x m acc = acc + sumN m (fun i => term (Ep a (x + i)) (Eq' a (x + i)))
  | 0, x, acc => by simp [areaS, sumN]
  | m + 1, x, acc => by
    unfold areaS
    rw [areaS_sum a m (x + 1), sumN_shift]
    have : sumN m (fun i => term (Ep a (x + 1 + i)) (Eq' a (x + 1 + i))) = sumN m (fun i => term (Ep a (x + (i + 1))) (Eq' a (x + (i + 1)))) := sumN_congr (fun i _ => by rw [show x + 1 + i = x + (i + 1) by omega])
    rw [this]
    have e0 : term (a.getD x default) (a.getD ((x + 1) % a.length) default) = term (Ep a x) (Eq' a x) := rfl
    rw [e0]
    simp only [Nat.add_zero]
    omega
theorem area_edges (a : List Point) : area a = sumN a.length (fun i => term (Ep a i) (Eq' a i)) := by
  unfold area
  rw [areaS_sum]
  simp
theorem area_T1 (a : List Point) (hn : 0 < a.length) : area (a.map T1) = area a := by
  rw [area_edges, area_edges, List.length_map]
  refine sumN_congr (fun i hi => ?_)
  rw [ep_map T1 a hi, eq_map T1 a hn]
  unfold term T1
  grind
theorem area_mir (a : List Point) (hn : 0 < a.length) : area ((a.map mirP).reverse) = area a := by
  rw [area_edges, area_edges, List.length_reverse, List.length_map]
  have e : sumN a.length (fun i => term (Ep ((a.map mirP).reverse) i) (Eq' ((a.map mirP).reverse) i)) = sumN a.length (fun x => (fun i j => term (mirP (Ep a i)) (mirP (Ep a j))) (a.length - 1 - x) (a.length - 1 - (x + 1) % a.length)) := sumN_congr (fun i hi => by
    rw [ep_rev mirP a hi, eq_rev mirP a hn])
  rw [e, sumN_cyc hn (fun i j => term (mirP (Ep a i)) (mirP (Ep a j)))]
  refine sumN_congr (fun j hj => ?_)
  have : Eq' a j = Ep a ((j + 1) % a.length) := rfl
  rw [this]
  unfold term mirP
  grind
theorem chk_of {a : List Point} (h3 : 3 ≤ a.length) (hl : a.length ≤ 32) (hr : a.all inRange = true) (ha : area a ≠ 0) : chk a = 0 := by
  unfold chk
  rw [decide_eq_false (show ¬ ((a.length : Nat) : Int) < 3 by omega), decide_eq_false (show ¬ ((a.length : Nat) : Int) > 32 by omega), hr, show (area a == 0) = false by rw [beq_eq_false_iff_ne]; exact ha]
  rfl
theorem rng_T1 {p : Point} (h : inRange p = true) : inRange (T1 p) = true := by rw [inRange_iff] at *; unfold T1; simp only; omega
theorem rng_mir {p : Point} (h : inRange p = true) : inRange (mirP p) = true := by rw [inRange_iff] at *; unfold mirP; simp only; omega
theorem all_map {a : List Point} {T : Point → Point} (hT : ∀ p, inRange p = true → inRange (T p) = true) (h : a.all inRange = true) : (a.map T).all inRange = true := List.all_eq_true.2 fun q hq => by
  obtain ⟨p, hp, rfl⟩ := List.mem_map.1 hq
  exact hT p (List.all_eq_true.1 h p hp)
theorem chk_T1 {a : List Point} (h : chk a = 0) : chk (a.map T1) = 0 := by
  obtain ⟨h3, hl, hr, ha⟩ := chk_facts h
  exact chk_of (by simpa using h3) (by simpa using hl) (all_map (fun _ => rng_T1) hr) (by rw [area_T1 a (by omega)]; exact ha)
theorem chk_mir {a : List Point} (h : chk a = 0) : chk ((a.map mirP).reverse) = 0 := by
  obtain ⟨h3, hl, hr, ha⟩ := chk_facts h
  refine chk_of (by simpa using h3) (by simpa using hl) ?_ (by rw [area_mir a (by omega)]; exact ha)
  rw [List.all_reverse]
  exact all_map (fun _ => rng_mir) hr
/-! ### Parities -/
def parF (f : Nat → Bool) : Nat → Nat → Bool
  | _, 0 => false
  | x, m + 1 => xor (f x) (parF f (x + 1) m)
theorem parC_F (a : List Point) (c : Point) : ∀ m x, parC a c x m = parF (fun j => cro (Ep a j) (Eq' a j) c) x m
  | 0, _ => rfl
  | m + 1, x => by rw [parC, parF, parC_F a c m (x + 1)]
theorem parF_congr {f g : Nat → Bool} : ∀ m x, (∀ j, x ≤ j → j < x + m → f j = g j) → parF f x m = parF g x m
  | 0, _, _ => rfl
  | m + 1, x, h => by rw [parF, parF, h x (by omega) (by omega), parF_congr m (x + 1) (fun j h1 h2 => h j (by omega) (by omega))]
theorem parF_tel (f g : Nat → Bool) (n : Nat) : ∀ m x, x + m ≤ n → parF (fun j => xor (f j) (xor (g (j % n)) (g ((j + 1) % n)))) x m = xor (parF f x m) (xor (g (x % n)) (g ((x + m) % n)))
  | 0, x, _ => by simp [parF]
  | m + 1, x, h => by
    rw [parF, parF, parF_tel f g n m (x + 1) (by omega), show x + 1 + m = x + (m + 1) by omega]
    cases f x <;> cases g (x % n) <;> cases g ((x + 1) % n) <;> cases parF f (x + 1) m <;> cases g ((x + (m + 1)) % n) <;> rfl
def bit (b : Bool) : Int := bif b then 1 else 0
theorem parF_sum (f : Nat → Bool) : ∀ m x, parF f x m = decide ((sumN m (fun i => bit (f (x + i)))) % 2 = 1)
  | 0, x => by simp [parF, sumN]
  | m + 1, x => by
    rw [parF, parF_sum f m (x + 1), sumN_shift]
    have : sumN m (fun i => bit (f (x + 1 + i))) = sumN m (fun i => bit (f (x + (i + 1)))) := sumN_congr (fun i _ => by rw [show x + 1 + i = x + (i + 1) by omega])
    rw [this]
    simp only [Nat.add_zero]
    generalize sumN m (fun i => bit (f (x + (i + 1)))) = s
    unfold bit
    rw [Bool.eq_iff_iff]
    cases f x
    · simp
    · simp
      omega
/-! ### Signs -/
theorem quad_pos {ux uy vx vy : Int} (hw : 0 < ux * vy - vx * uy) : xor (decide (uy ≤ 0 ∧ 0 < vy)) (xor (decide (0 < ux ∧ uy ≤ 0)) (decide (0 < vx ∧ vy ≤ 0))) = decide (ux ≤ 0 ∧ 0 < vx) := by
  have n1 : ¬ (ux ≤ 0 ∧ 0 < uy ∧ 0 < vx ∧ 0 < vy) := fun ⟨a, b, c, d⟩ => by
    have h1 := Int.mul_nonneg (show 0 ≤ -ux by omega) (show 0 ≤ vy by omega)
    have h2 := Int.mul_pos c b
    rw [Int.neg_mul] at h1
    omega
  have n2 : ¬ (ux ≤ 0 ∧ uy ≤ 0 ∧ vx ≤ 0 ∧ 0 < vy) := fun ⟨a, b, c, d⟩ => by
    have h1 := Int.mul_nonneg (show 0 ≤ -ux by omega) (show 0 ≤ vy by omega)
    have h2 := Int.mul_nonneg (show 0 ≤ -vx by omega) (show 0 ≤ -uy by omega)
    rw [Int.neg_mul] at h1
    rw [Int.neg_mul_neg] at h2
    omega
  have n3 : ¬ (0 < ux ∧ 0 < uy ∧ 0 < vx ∧ vy ≤ 0) := fun ⟨a, b, c, d⟩ => by
    have h1 := Int.mul_nonneg (show 0 ≤ ux by omega) (show 0 ≤ -vy by omega)
    have h2 := Int.mul_pos c b
    rw [Int.mul_neg] at h1
    omega
  have n4 : ¬ (0 < ux ∧ uy ≤ 0 ∧ vx ≤ 0 ∧ vy ≤ 0) := fun ⟨a, b, c, d⟩ => by
    have h1 := Int.mul_nonneg (show 0 ≤ ux by omega) (show 0 ≤ -vy by omega)
    have h2 := Int.mul_nonneg (show 0 ≤ -vx by omega) (show 0 ≤ -uy by omega)
    rw [Int.mul_neg] at h1
    rw [Int.neg_mul_neg] at h2
    omega
  by_cases A : 0 < ux <;> by_cases B : uy ≤ 0 <;> by_cases C : 0 < vx <;> by_cases D : vy ≤ 0 <;>
    first
      | (exfalso; omega)
      | (have A' : (ux ≤ 0) = ¬ (0 < ux) := by rw [eq_iff_iff]; omega
         have D' : (0 < vy) = ¬ (vy ≤ 0) := by rw [eq_iff_iff]; omega
         simp [A, B, C, D, A', D'])
/-- On one line through the origin, on the same side. -/
theorem quad_zero {ux uy vx vy : Int} (hw : ux * vy - vx * uy = 0) (hs : (0 < ux ∧ 0 < vx) ∨ (ux < 0 ∧ vx < 0) ∨ (0 < uy ∧ 0 < vy) ∨ (uy < 0 ∧ vy < 0)) : ((0 < ux ∧ uy ≤ 0) ↔ (0 < vx ∧ vy ≤ 0)) ∧ (uy ≤ 0 ↔ vy ≤ 0) := by
  have sg : ∀ a b c d : Int, 0 < a → 0 < c → a * d - c * b = 0 → (b ≤ 0 ↔ d ≤ 0) := fun a b c d ha hc h => by
    constructor
    · intro hb
      refine Classical.byContradiction fun hd => ?_
      have h1 := Int.mul_pos ha (show 0 < d by omega)
      have h2 := Int.mul_nonneg (show 0 ≤ c by omega) (show 0 ≤ -b by omega)
      rw [Int.mul_neg] at h2
      omega
    · intro hd
      refine Classical.byContradiction fun hb => ?_
      have h1 := Int.mul_pos hc (show 0 < b by omega)
      have h2 := Int.mul_nonneg (show 0 ≤ a by omega) (show 0 ≤ -d by omega)
      rw [Int.mul_neg] at h2
      omega
  rcases hs with ⟨a, b⟩ | ⟨a, b⟩ | ⟨a, b⟩ | ⟨a, b⟩
  · have := sg ux uy vx vy a b hw
    omega
  · have := sg (-ux) uy (-vx) vy (by omega) (by omega) (by rw [Int.neg_mul, Int.neg_mul]; omega)
    omega
  · omega
  · have e := sg (-uy) ux (-vy) vx (by omega) (by omega) (by rw [Int.neg_mul, Int.neg_mul, Int.mul_comm uy, Int.mul_comm vy]; omega)
    omega
end Saw
end Go.SL

namespace Go.SL
namespace Saw

theorem cross_T1 (p q c : Point) : cross (T1 p) (T1 q) (T1 c) = cross p q c := by unfold cross T1; grind
theorem cross_mir (p q c : Point) : cross (mirP q) (mirP p) (mirP c) = cross p q c := by unfold cross mirP; grind
theorem onE_T1 (p q c : Point) : onE (T1 p) (T1 q) (T1 c) = onE p q c := by
  have a1 := imin_c (-p.Y) (-q.Y)
  have a2 := imax_c (-p.Y) (-q.Y)
  have a3 := imin_c p.X q.X
  have a4 := imax_c p.X q.X
  have a5 := imin_c p.Y q.Y
  have a6 := imax_c p.Y q.Y
  rw [Bool.eq_iff_iff, onE_iff, onE_iff, cross_T1]
  unfold T1
  simp only
  omega
theorem onE_mir (p q c : Point) : onE (mirP q) (mirP p) (mirP c) = onE p q c := by
  have a1 := imin_c (-q.X) (-p.X)
  have a2 := imax_c (-q.X) (-p.X)
  have a3 := imin_c p.X q.X
  have a4 := imax_c p.X q.X
  have a5 := imin_c p.Y q.Y
  have a6 := imax_c p.Y q.Y
  have a7 := imin_c q.Y p.Y
  have a8 := imax_c q.Y p.Y
  rw [Bool.eq_iff_iff, onE_iff, onE_iff, cross_mir]
  unfold mirP
  simp only
  omega
theorem cross_uv (p q c : Point) : cross p q c = (p.X - c.X) * (q.Y - c.Y) - (q.X - c.X) * (p.Y - c.Y) := by unfold cross; grind
theorem off_side {p q c : Point} (h : onE p q c = false) (h0 : cross p q c = 0) : (0 < p.X - c.X ∧ 0 < q.X - c.X) ∨ (p.X - c.X < 0 ∧ q.X - c.X < 0) ∨ (0 < p.Y - c.Y ∧ 0 < q.Y - c.Y) ∨ (p.Y - c.Y < 0 ∧ q.Y - c.Y < 0) := by
  have a3 := imin_c p.X q.X
  have a4 := imax_c p.X q.X
  have a5 := imin_c p.Y q.Y
  have a6 := imax_c p.Y q.Y
  have : ¬ (cross p q c = 0 ∧ imin p.X q.X ≤ c.X ∧ c.X ≤ imax p.X q.X ∧ imin p.Y q.Y ≤ c.Y ∧ c.Y ≤ imax p.Y q.Y) := fun hh => by
    rw [onE_iff.2 hh] at h; cases h
  omega
def hq (c p : Point) : Bool := decide (0 < p.X - c.X ∧ p.Y - c.Y ≤ 0)
def hy (c p : Point) : Bool := decide (p.Y - c.Y ≤ 0)
theorem cro_T1 {p q c : Point} (h : onE p q c = false) : cro (T1 p) (T1 q) (T1 c) = xor (cro p q c) (xor (hq c p) (hq c q)) := by
  have e := cross_uv p q c
  have y1 : ∀ r : Point, (T1 r).Y = r.X := fun _ => rfl
  rcases Int.lt_trichotomy (cross p q c) 0 with hw | hw | hw
  · have k := quad_pos (ux := q.X - c.X) (uy := q.Y - c.Y) (vx := p.X - c.X) (vy := p.Y - c.Y) (by omega)
    have e1 : cro (T1 p) (T1 q) (T1 c) = decide (q.X - c.X ≤ 0 ∧ 0 < p.X - c.X) := by
      rw [Bool.eq_iff_iff, cro_iff, decide_eq_true_eq, cross_T1, y1, y1, y1]; omega
    have e2 : cro p q c = decide (q.Y - c.Y ≤ 0 ∧ 0 < p.Y - c.Y) := by
      rw [Bool.eq_iff_iff, cro_iff, decide_eq_true_eq]; omega
    rw [e1, ← k, e2]
    unfold hq
    rw [Bool.xor_comm (decide (0 < q.X - c.X ∧ q.Y - c.Y ≤ 0))]
  · have s := quad_zero (ux := p.X - c.X) (uy := p.Y - c.Y) (vx := q.X - c.X) (vy := q.Y - c.Y) (by omega) (off_side h hw)
    have e1 : cro (T1 p) (T1 q) (T1 c) = false := by
      cases hc : cro (T1 p) (T1 q) (T1 c) with
      | false => rfl
      | true => rw [cro_iff, cross_T1] at hc; omega
    have e2 : cro p q c = false := by
      cases hc : cro p q c with
      | false => rfl
      | true => rw [cro_iff] at hc; omega
    have e3 : hq c p = hq c q := by
      unfold hq
      rw [Bool.eq_iff_iff, decide_eq_true_eq, decide_eq_true_eq]; exact s.1
    rw [e1, e2, e3]; simp
  · have k := quad_pos (ux := p.X - c.X) (uy := p.Y - c.Y) (vx := q.X - c.X) (vy := q.Y - c.Y) (by omega)
    have e1 : cro (T1 p) (T1 q) (T1 c) = decide (p.X - c.X ≤ 0 ∧ 0 < q.X - c.X) := by
      rw [Bool.eq_iff_iff, cro_iff, decide_eq_true_eq, cross_T1, y1, y1, y1]; omega
    have e2 : cro p q c = decide (p.Y - c.Y ≤ 0 ∧ 0 < q.Y - c.Y) := by
      rw [Bool.eq_iff_iff, cro_iff, decide_eq_true_eq]; omega
    rw [e1, ← k, e2]
    rfl
theorem cro_mir {p q c : Point} (h : onE p q c = false) : cro (mirP q) (mirP p) (mirP c) = xor (cro p q c) (xor (hy c p) (hy c q)) := by
  have e := cross_uv p q c
  have y1 : ∀ r : Point, (mirP r).Y = r.Y := fun _ => rfl
  have ex : cro (mirP q) (mirP p) (mirP c) = true ↔ (q.Y ≤ c.Y ∧ c.Y < p.Y ∧ 0 < cross p q c) ∨ (p.Y ≤ c.Y ∧ c.Y < q.Y ∧ cross p q c < 0) := by rw [cro_iff, cross_mir, y1, y1, y1]
  have ey := cro_iff (p := p) (q := q) (c := c)
  have z1 : hy c p = true ↔ p.Y - c.Y ≤ 0 := by unfold hy; rw [decide_eq_true_eq]
  have z2 : hy c q = true ↔ q.Y - c.Y ≤ 0 := by unfold hy; rw [decide_eq_true_eq]
  have col : cross p q c = 0 → (p.Y - c.Y ≤ 0 ↔ q.Y - c.Y ≤ 0) := fun hw => (quad_zero (ux := p.X - c.X) (uy := p.Y - c.Y) (vx := q.X - c.X) (vy := q.Y - c.Y) (by omega) (off_side h hw)).2
  cases h1 : cro (mirP q) (mirP p) (mirP c) <;> cases h2 : cro p q c <;> cases h3 : hy c p <;> cases h4 : hy c q <;> first
    | rfl
    | (exfalso
       rw [h1] at ex
       rw [h2] at ey
       rw [h3] at z1
       rw [h4] at z2
       simp only [true_iff, Bool.false_eq_true, false_iff] at ex ey z1 z2
       by_cases hw : cross p q c = 0
       · have := col hw
         omega
       · omega)
theorem has_T1 {a : List Point} {c : Point} (h : chk a = 0) (hc : inRange c = true) : has (a.map T1) (T1 c) = has a c := by
  obtain ⟨h3, _, _, _⟩ := chk_facts h
  obtain ⟨v1, v2⟩ := has_val h hc
  obtain ⟨w1, w2⟩ := has_val (chk_T1 h) (rng_T1 hc)
  have on : ∀ j, j < a.length → onE (Ep (a.map T1) j) (Eq' (a.map T1) j) (T1 c) = onE (Ep a j) (Eq' a j) c := fun j hj => by rw [ep_map T1 a hj, eq_map T1 a (by omega), onE_T1]
  by_cases hon : ∃ j, j < a.length ∧ onE (Ep a j) (Eq' a j) c = true
  · obtain ⟨j, hj, ho⟩ := hon
    rw [v1 ⟨j, hj, ho⟩, w1 ⟨j, by simpa using hj, by rw [on j hj]; exact ho⟩]
  · have hno : ∀ j, j < a.length → onE (Ep a j) (Eq' a j) c = false := fun j hj => by
      cases ho : onE (Ep a j) (Eq' a j) c with
      | false => rfl
      | true => exact absurd ⟨j, hj, ho⟩ hon
    rw [v2 hno, w2 (fun j hj => by rw [List.length_map] at hj; rw [on j hj]; exact hno j hj), List.length_map, parC_F, parC_F]
    have e : parF (fun j => cro (Ep (a.map T1) j) (Eq' (a.map T1) j) (T1 c)) 0 a.length = parF (fun j => xor ((fun j => cro (Ep a j) (Eq' a j) c) j) (xor ((fun j => hq c (Ep a j)) (j % a.length)) ((fun j => hq c (Ep a j)) ((j + 1) % a.length)))) 0 a.length := parF_congr _ _ (fun j _ hj => by
      have hj' : j < a.length := by omega
      rw [ep_map T1 a hj', eq_map T1 a (by omega), cro_T1 (hno j hj'), Nat.mod_eq_of_lt hj'])
    rw [e, parF_tel (fun j => cro (Ep a j) (Eq' a j) c) (fun j => hq c (Ep a j)) a.length a.length 0 (by omega)]
    simp
theorem has_mir {a : List Point} {c : Point} (h : chk a = 0) (hc : inRange c = true) : has ((a.map mirP).reverse) (mirP c) = has a c := by
  obtain ⟨h3, _, _, _⟩ := chk_facts h
  obtain ⟨v1, v2⟩ := has_val h hc
  obtain ⟨w1, w2⟩ := has_val (chk_mir h) (rng_mir hc)
  have hn : 0 < a.length := by omega
  have len : ((a.map mirP).reverse).length = a.length := by simp
  -- edge x of the mirrored polygon is edge (jx x) of a, the other way
  have edge : ∀ x, x < a.length → ∃ j, j < a.length ∧ Ep ((a.map mirP).reverse) x = mirP (Eq' a j) ∧ Eq' ((a.map mirP).reverse) x = mirP (Ep a j) := fun x hx => by
    rw [ep_rev mirP a hx, eq_rev mirP a hn]
    by_cases e : x = a.length - 1
    · refine ⟨a.length - 1, by omega, ?_, ?_⟩
      · subst e
        show _ = mirP (Ep a ((a.length - 1 + 1) % a.length))
        rw [show a.length - 1 + 1 = a.length by omega, Nat.mod_self, show a.length - 1 - (a.length - 1) = 0 by omega]
      · subst e
        rw [show a.length - 1 + 1 = a.length by omega, Nat.mod_self, Nat.sub_zero]
    · refine ⟨a.length - 2 - x, by omega, ?_, ?_⟩
      · show _ = mirP (Ep a ((a.length - 2 - x + 1) % a.length))
        rw [Nat.mod_eq_of_lt (by omega), show a.length - 2 - x + 1 = a.length - 1 - x by omega]
      · rw [Nat.mod_eq_of_lt (by omega), show a.length - 1 - (x + 1) = a.length - 2 - x by omega]
  have back : ∀ j, j < a.length → ∃ x, x < a.length ∧ Ep ((a.map mirP).reverse) x = mirP (Eq' a j) ∧ Eq' ((a.map mirP).reverse) x = mirP (Ep a j) := fun j hj => by
    by_cases e : j = a.length - 1
    · refine ⟨a.length - 1, by omega, ?_, ?_⟩
      · rw [ep_rev mirP a (by omega)]
        subst e
        show _ = mirP (Ep a ((a.length - 1 + 1) % a.length))
        rw [show a.length - 1 + 1 = a.length by omega, Nat.mod_self, show a.length - 1 - (a.length - 1) = 0 by omega]
      · rw [eq_rev mirP a hn]
        subst e
        rw [show a.length - 1 + 1 = a.length by omega, Nat.mod_self, Nat.sub_zero]
    · refine ⟨a.length - 2 - j, by omega, ?_, ?_⟩
      · rw [ep_rev mirP a (by omega)]
        show _ = mirP (Ep a ((j + 1) % a.length))
        rw [Nat.mod_eq_of_lt (by omega), show a.length - 1 - (a.length - 2 - j) = j + 1 by omega]
      · rw [eq_rev mirP a hn, Nat.mod_eq_of_lt (by omega), show a.length - 1 - (a.length - 2 - j + 1) = j by omega]
  by_cases hon : ∃ j, j < a.length ∧ onE (Ep a j) (Eq' a j) c = true
  · obtain ⟨j, hj, ho⟩ := hon
    obtain ⟨x, hx, e1, e2⟩ := back j hj
    rw [v1 ⟨j, hj, ho⟩, w1 ⟨x, by rw [len]; exact hx, by rw [e1, e2, onE_mir]; exact ho⟩]
  · have hno : ∀ j, j < a.length → onE (Ep a j) (Eq' a j) c = false := fun j hj => by
      cases ho : onE (Ep a j) (Eq' a j) c with
      | false => rfl
      | true => exact absurd ⟨j, hj, ho⟩ hon
    rw [v2 hno, w2 (fun x hx => by
      rw [len] at hx
      obtain ⟨j, hj, e1, e2⟩ := edge x hx
      rw [e1, e2, onE_mir]; exact hno j hj), len, parC_F, parC_F]
    have s1 : parF (fun j => cro (Ep ((a.map mirP).reverse) j) (Eq' ((a.map mirP).reverse) j) (mirP c)) 0 a.length = parF (fun j => cro (mirP (Eq' a j)) (mirP (Ep a j)) (mirP c)) 0 a.length := by
      rw [parF_sum, parF_sum]
      have e : sumN a.length (fun i => bit (cro (Ep ((a.map mirP).reverse) (0 + i)) (Eq' ((a.map mirP).reverse) (0 + i)) (mirP c))) = sumN a.length (fun x => (fun i j => bit (cro (mirP (Ep a i)) (mirP (Ep a j)) (mirP c))) (a.length - 1 - x) (a.length - 1 - (x + 1) % a.length)) := sumN_congr (fun i hi => by
        rw [Nat.zero_add, ep_rev mirP a hi, eq_rev mirP a hn])
      have e' : sumN a.length (fun i => bit (cro (mirP (Eq' a (0 + i))) (mirP (Ep a (0 + i))) (mirP c))) = sumN a.length (fun j => (fun i j => bit (cro (mirP (Ep a i)) (mirP (Ep a j)) (mirP c))) ((j + 1) % a.length) j) := sumN_congr (fun i hi => by
        rw [Nat.zero_add])
      rw [e, sumN_cyc hn (fun i j => bit (cro (mirP (Ep a i)) (mirP (Ep a j)) (mirP c))), e']
    have s2 : parF (fun j => cro (mirP (Eq' a j)) (mirP (Ep a j)) (mirP c)) 0 a.length = parF (fun j => xor ((fun j => cro (Ep a j) (Eq' a j) c) j) (xor ((fun j => hy c (Ep a j)) (j % a.length)) ((fun j => hy c (Ep a j)) ((j + 1) % a.length)))) 0 a.length := parF_congr _ _ (fun j _ hj => by
      have hj' : j < a.length := by omega
      rw [cro_mir (hno j hj'), Nat.mod_eq_of_lt hj'])
    rw [s1, s2, parF_tel (fun j => cro (Ep a j) (Eq' a j) c) (fun j => hy c (Ep a j)) a.length a.length 0 (by omega)]
    simp
/-! ### Turning by quarters -/
theorem map_turn_succ (k : Nat) (hk : k < 3) (a : List Point) : a.map (turnP (k + 1)) = (a.map (turnP k)).map T1 := by
  rw [List.map_map]
  exact List.map_congr_left (fun p _ => turnP_succ k hk p)
theorem turn_all (k : Nat) (hk : k < 4) {a : List Point} {c : Point} (h : chk a = 0) (hc : inRange c = true) : chk (a.map (turnP k)) = 0 ∧ inRange (turnP k c) = true ∧ area (a.map (turnP k)) = area a ∧ has (a.map (turnP k)) (turnP k c) = has a c := by
  induction k with
  | zero =>
    have e : a.map (turnP 0) = a := by
      conv => rhs; rw [← List.map_id a]
      exact List.map_congr_left (fun p _ => rfl)
    rw [e]; exact ⟨h, hc, rfl, rfl⟩
  | succ k ih =>
    obtain ⟨i1, i2, i3, i4⟩ := ih (by omega)
    obtain ⟨h3, _, _, _⟩ := chk_facts i1
    rw [map_turn_succ k (by omega), turnP_succ k (by omega)]
    exact ⟨chk_T1 i1, rng_T1 i2, by rw [area_T1 _ (by omega), i3], by rw [has_T1 i1 i2, i4]⟩
theorem turn_back (k : Nat) (hk : k < 4) (p : Point) : turnP ((4 - k) % 4) (turnP k p) = p := by
  match k, hk with
  | 0, _ => rfl
  | 1, _ => unfold turnP; simp
  | 2, _ => unfold turnP; simp
  | 3, _ => unfold turnP; simp
theorem all_canT {a : List Point} (h : a.all inRange = true) : a.all canT = true := List.all_eq_true.2 fun p hp => by
  have := inRange_iff.1 (List.all_eq_true.1 h p hp)
  unfold canT
  have e1 : (p.X == -9223372036854775808) = false := by rw [beq_eq_false_iff_ne]; omega
  have e2 : (p.Y == -9223372036854775808) = false := by rw [beq_eq_false_iff_ne]; omega
  rw [e1, e2]; rfl
theorem all_ok {a : List Point} (h : a.all inRange = true) : ∀ p ∈ a, i64ok p.X ∧ i64ok p.Y := fun p hp => by
  have := inRange_iff.1 (List.all_eq_true.1 h p hp)
  unfold i64ok; omega
theorem Turn_eq {a : List Point} (hl : a.length ≤ 1000) (h : a.all inRange = true) (r : Int) (q : Nat) (hq : q < 4) (hr : Int.tmod (w64 (Int.tmod r 4 + 4)) 4 = (q : Int)) : poly_Turn a r = some (a.map (turnP q)) := by
  rw [(turn_eq a (by omega) (all_ok h) r q hq hr).1]
  unfold turns
  rw [all_canT h]; rfl
theorem Mirror_eq {a : List Point} (hl : a.length ≤ 1000) (h : a.all inRange = true) : poly_Mirror a = some ((a.map mirP).reverse) := by
  rw [(mirror_eq a (by omega) (all_ok h)).1]
  unfold mirror
  rw [all_canT h]; rfl
theorem turn_rng (k : Nat) (hk : k < 4) {p : Point} (h : inRange p = true) : inRange (turnP k p) = true := by
  rw [inRange_iff] at *
  match k, hk with
  | 0, _ => exact h
  | 1, _ => unfold turnP; simp only; omega
  | 2, _ => unfold turnP; simp only; omega
  | 3, _ => unfold turnP; simp only; omega
theorem quart (k : Nat) (hk : k < 4) : Int.tmod (w64 (Int.tmod (k : Int) 4 + 4)) 4 = (k : Int) ∧ Int.tmod (w64 (Int.tmod (w64 (0 - (k : Int))) 4 + 4)) 4 = (((4 - k) % 4 : Nat) : Int) ∧ Int.tmod (w64 (Int.tmod (w64 (4 - (k : Int))) 4 + 4)) 4 = (((4 - k) % 4 : Nat) : Int) := by
  match k, hk with
  | 0, _ => exact ⟨by decide, by decide, by decide⟩
  | 1, _ => exact ⟨by decide, by decide, by decide⟩
  | 2, _ => exact ⟨by decide, by decide, by decide⟩
  | 3, _ => exact ⟨by decide, by decide, by decide⟩
theorem hull_all {a : List Point} (h : a.all inRange = true) : (hull a).all inRange = true := List.all_eq_true.2 fun p hp => List.all_eq_true.1 h p (hull_mem hp)
theorem PolyBack_true (a : List Point) (c : Point) (r : Int) {w w' : Prop} (_ : w) (_ : w') (hr : i64ok r) : law09_PolyBack a c r = some true := by
  have k1t : law09_PolyBack_k1 a c r true = some true := by unfold law09_PolyBack_k1; simp [awake_true]
  unfold law09_PolyBack
  rw [(chk_eq a).2, ref_range [c] (by simp)]
  simp only [Option.bind_some]
  by_cases hc : chk a = 0
  · rw [show (chk a != 0) = false by simpa using hc]
    simp only [cond_false]
    have ec : [c].all inRange = inRange c := by simp
    rw [ec]
    cases hic : inRange c with
    | false => exact k1t
    | true =>
      obtain ⟨h3, h32, hall, harea⟩ := chk_facts hc
      obtain ⟨k, hk, ek⟩ := quarter_ex r
      obtain ⟨q1, q2, q3⟩ := quart k hk
      have hall1 : (a.map (turnP k)).all inRange = true := all_map (fun _ => turn_rng k hk) hall
      have hall2 : ((a.map mirP).reverse).all inRange = true := by rw [List.all_reverse]; exact all_map (fun _ => rng_mir) hall
      obtain ⟨t1, t2, t3, t4⟩ := turn_all k hk hc hic
      have eb : (a.map (turnP k)).map (turnP ((4 - k) % 4)) = a := by
        rw [List.map_map]
        conv => rhs; rw [← List.map_id a]
        exact List.map_congr_left (fun p _ => turn_back k hk p)
      have em : (((a.map mirP).reverse).map mirP).reverse = a := by
        rw [List.map_reverse, List.reverse_reverse, List.map_map]
        conv => rhs; rw [← List.map_id a]
        exact List.map_congr_left (fun p _ => by show mirP (mirP p) = p; unfold mirP; simp)
      have hlt : (a.map (turnP k)).length ≤ 1000 := by simp; omega
      have hlm : ((a.map mirP).reverse).length ≤ 1000 := by simp; omega
      have r1 : poly_Turn a (k : Int) = some (a.map (turnP k)) := Turn_eq (by omega) hall _ k hk q1
      have r2 : poly_Mirror a = some ((a.map mirP).reverse) := Mirror_eq (by omega) hall
      have r3 : poly_Turn (a.map (turnP k)) (w64 (0 - (k : Int))) = some a := by rw [Turn_eq hlt hall1 _ _ (Nat.mod_lt _ (by decide)) q2, eb]
      have r4 : poly_Turn (a.map (turnP k)) (w64 (4 - (k : Int))) = some a := by rw [Turn_eq hlt hall1 _ _ (Nat.mod_lt _ (by decide)) q3, eb]
      have r5 : poly_Mirror ((a.map mirP).reverse) = some a := by rw [Mirror_eq hlm hall2, em]
      have sa : ref09_Same a a = some true := same_self a (by omega)
      have ar : ∀ {b : List Point}, b.length ≤ 32 → b.all inRange = true → poly_Area2 b = some (area b) := fun {b} h1 h2 => by
        rw [(area_eq b).1]
        unfold area2
        rw [decide_eq_false (by omega), h2]; rfl
      have one : ∀ d : Point, ((([d] : List Point).length : Nat) : Int) = 1 := fun _ => rfl
      have s1 : poly_Turn [c] (k : Int) = some [turnP k c] := by rw [Turn_eq (by simp) (by simpa using hic) _ k hk q1]; rfl
      have s2 : poly_Mirror [c] = some [mirP c] := by rw [Mirror_eq (by simp) (by simpa using hic)]; rfl
      have hne := hull_poly hc
      have hh := hull_all hall
      have hhl := hull_len32 a
      have u1 : poly_Turn (hull a) (k : Int) = some ((hull a).map (turnP k)) := Turn_eq (by omega) hh _ k hk q1
      have u2 : poly_Mirror (hull a) = some (((hull a).map mirP).reverse) := Mirror_eq (by omega) hh
      have v1 : hull ((hull a).map (turnP k)) = hull (a.map (turnP k)) := hull_lin (turnP_lin k hk) hne (hull_poly t1)
      have hle := hull_le a
      have rv : ∀ {b : List Point}, b.length ≤ 32 → hull b.reverse = hull b := fun {b} hb => hull_set (by simpa using hb) hb (fun p => by simp)
      have hmne : hull (a.map mirP) ≠ [] := by
        have := hull_poly (chk_mir hc)
        rw [rv (by simp; omega)] at this
        exact this
      have v2 : hull (((hull a).map mirP).reverse) = hull ((a.map mirP).reverse) := by
        rw [rv (by simp; omega), rv (by simp; omega)]
        exact hull_lin mirP_lin hne hmne
      have qu : ref09_Quarters r = some (k : Int) := by unfold ref09_Quarters; rw [ek]
      unfold law09_PolyBack_k1
      simp only [Bool.not_true, cond_false, qu, Option.bind_some, r1, r2, r3, r4, r5, sa, ar (show (a.map (turnP k)).length ≤ 32 by simp; omega) hall1, ar h32 hall, ar (show ((a.map mirP).reverse).length ≤ 32 by simp; omega) hall2, t3, area_mir a (show 0 < a.length by omega), bne_self_eq_false]
      unfold law09_PolyBack_k2
      simp only [cond_false, s1, s2, Option.bind_some, one, bne_self_eq_false, (has_eq _ _).1]
      rw [inb_t (by decide) (by simp), inb_t (by decide) (by simp)]
      simp only [cond_true, Int.toNat_zero, List.getD_cons_zero, t4, has_mir hc hic, beq_self_eq_true, Bool.not_true, cond_false]
      unfold law09_PolyBack_k3
      have l1 := hull_len32 (a.map (turnP k))
      have l2 := hull_len32 ((a.map mirP).reverse)
      simp only [cond_false, polyHull_eq, Option.bind_some, u1, u2, v1, v2, same_self _ (show (hull (a.map (turnP k))).length ≤ 1000000 by omega), same_self _ (show (hull ((a.map mirP).reverse)).length ≤ 1000000 by omega), cond_true, awake_true, law09_PolyBack_k4]
  · rw [show (chk a != 0) = true by simpa using hc]; exact k1t
end Saw
end Go.SL
