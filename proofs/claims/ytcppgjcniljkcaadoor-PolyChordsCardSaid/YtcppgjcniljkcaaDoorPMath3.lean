/- Poly's plain mathematics, part 3: points in the region. -/
import Derived.Test.YtcppgjcniljkcaaDoorPMath1
set_option linter.unusedVariables false
set_option linter.unusedSimpArgs false
namespace Go.SL
namespace Saw

def cross (p q c : Point) : Int := (q.X - p.X) * (c.Y - p.Y) - (c.X - p.X) * (q.Y - p.Y)
abbrev rng (p : Point) : Prop := (-600 ≤ p.X ∧ p.X ≤ 600) ∧ (-600 ≤ p.Y ∧ p.Y ≤ 600)
theorem cross_neg (p q c : Point) : cross q p c = -cross p q c := by unfold cross; grind
theorem cross_eq {p q c : Point} (hp : rng p) (hq : rng q) (hc : rng c) : poly_cross p q c = some (cross p q c) ∧ ref09_Cross p q c = some (cross p q c) := by
  obtain ⟨⟨p1, p2⟩, p3, p4⟩ := hp
  obtain ⟨⟨q1, q2⟩, q3, q4⟩ := hq
  obtain ⟨⟨c1, c2⟩, c3, c4⟩ := hc
  have m1 := mul_bound (a := q.X - p.X) (b := c.Y - p.Y) (m := 1200) (n := 1200) (by omega) (by omega) (by omega) (by omega) (by decide) (by decide)
  have m2 := mul_bound (a := c.X - p.X) (b := q.Y - p.Y) (m := 1200) (n := 1200) (by omega) (by omega) (by omega) (by omega) (by decide) (by decide)
  unfold poly_cross ref09_Cross cross
  rw [w64_id (n := q.X - p.X) (by omega) (by omega), w64_id (n := c.Y - p.Y) (by omega) (by omega), w64_id (n := c.X - p.X) (by omega) (by omega), w64_id (n := q.Y - p.Y) (by omega) (by omega), Int.mul_comm (q.Y - p.Y) (c.X - p.X),
    w64_id (n := (q.X - p.X) * (c.Y - p.Y)) (by omega) (by omega), w64_id (n := (c.X - p.X) * (q.Y - p.Y)) (by omega) (by omega), w64_id (by omega) (by omega)]
  exact ⟨rfl, rfl⟩

def onE (p q c : Point) : Bool := (cross p q c == 0) && (decide (imin p.X q.X ≤ c.X) && (decide (c.X ≤ imax p.X q.X) && (decide (imin p.Y q.Y ≤ c.Y) && decide (c.Y ≤ imax p.Y q.Y))))
def cro (p q c : Point) : Bool := (decide (p.Y ≤ c.Y) && (decide (c.Y < q.Y) && decide (cross p q c > 0))) || (decide (q.Y ≤ c.Y) && (decide (c.Y < p.Y) && decide (cross p q c < 0)))
def hasS (a : List Point) (c : Point) : Nat → Nat → Bool → Bool ⊕ Bool
  | _, 0, b => .inr b
  | x, m + 1, b => bif onE (a.getD x default) (a.getD ((x + 1) % a.length) default) c then .inl true else hasS a c (x + 1) m (bif cro (a.getD x default) (a.getD ((x + 1) % a.length) default) c then !b else b)

theorem onEdge_eq {p q c : Point} (hp : rng p) (hq : rng q) (hc : rng c) : poly_onEdge p q c = some (onE p q c) := by
  unfold poly_onEdge onE
  rw [(cross_eq hp hq hc).1, Option.bind_some]
  simp only [poly_onEdge_k1]
  cases cross p q c == 0 <;> cases decide (imin p.X q.X ≤ c.X) <;> cases decide (c.X ≤ imax p.X q.X) <;> cases decide (imin p.Y q.Y ≤ c.Y) <;> rfl

theorem k3_eq (rec : Bool → Int → Option (Bool ⊕ Bool)) (x : Int) {p q c : Point} (hp : rng p) (hq : rng q) (hc : rng c) (b : Bool) : (bif decide (p.Y > q.Y) then poly_Has_k3 c b x rec p q else poly_Has_k3 c b x rec q p) = rec (bif cro p q c then !b else b) (w64 (x + 1)) := by
  have hn' := cross_neg p q c
  unfold poly_Has_k3 poly_Has_k4 poly_Has_k5
  rw [(cross_eq hp hq hc).1, (cross_eq hq hp hc).1, hn']
  simp only [Option.bind_some]
  by_cases h1 : p.Y > q.Y
  · rw [decide_eq_true h1]
    simp only [cond_true, cro]
    by_cases e1 : q.Y ≤ c.Y
    · by_cases e2 : c.Y < p.Y
      · have e3 : ¬ p.Y ≤ c.Y := by omega
        by_cases e5 : cross p q c < 0
        · have e6 : -cross p q c > 0 := by omega
          simp [e1, e2, e3, e5]
        · have e6 : ¬ -cross p q c > 0 := by omega
          simp [e1, e2, e3, e5]
      · have e4 : ¬ c.Y < q.Y := by omega
        simp [e1, e2, e4]
    · have e3 : ¬ p.Y ≤ c.Y := by omega
      simp [e1, e3]
  · rw [decide_eq_false h1]
    simp only [cond_false, cro]
    by_cases e1 : p.Y ≤ c.Y
    · by_cases e2 : c.Y < q.Y
      · have e3 : ¬ q.Y ≤ c.Y := by omega
        by_cases e5 : cross p q c > 0
        · have e5' : 0 < cross p q c := e5
          simp [e1, e2, e3, e5']
        · have e5' : ¬ 0 < cross p q c := e5
          simp [e1, e2, e3, e5']
      · have e4 : ¬ c.Y < p.Y := by omega
        simp [e1, e2, e4]
    · have e3 : ¬ q.Y ≤ c.Y := by omega
      simp [e1, e3]
theorem rk3_eq (rec : Bool → Int → Option (Bool ⊕ Bool)) (a : List Point) (x : Int) {p q c : Point} (hpx : a.getD x.toNat default = p) (hqx : a.getD (Int.tmod (w64 (x + 1)) ((a.length : Nat) : Int)).toNat default = q) (hp : rng p) (hq : rng q) (hc : rng c) (b e : Bool) :
    ref09_Has_k3 a c b x rec e = bif e then some (.inl true) else rec (bif cro p q c then !b else b) (w64 (x + 1)) := by
  unfold ref09_Has_k3 ref09_Has_k4 ref09_Has_k5 cro
  rw [hpx, hqx, (cross_eq hp hq hc).2]
  simp only [Option.bind_some]
  cases e with
  | true => rfl
  | false => cases decide (p.Y ≤ c.Y) <;> cases decide (c.Y < q.Y) <;> cases decide (q.Y ≤ c.Y) <;> cases decide (c.Y < p.Y) <;> cases decide (cross p q c > 0) <;> cases decide (cross p q c < 0) <;> rfl
theorem has_loop (a : List Point) (c : Point) (hr : a.all inRange = true) (hc : rng c) (hl : a.length ≤ 1000000) : ∀ (m n x : Nat) (b : Bool), x + m = a.length → m < n → poly_Has_L2 a c n b (x : Int) = some (hasS a c x m b) ∧ ref09_Has_L2 a c n b (x : Int) = some (hasS a c x m b)
  | _, 0, x, _, _, hn => by omega
  | 0, n + 1, x, b, hx, _ => by
    unfold poly_Has_L2 ref09_Has_L2 hasS
    rw [lt_f (by omega)]
    exact ⟨rfl, rfl⟩
  | m + 1, n + 1, x, b, hx, hn => by
    have hlen : 0 < a.length := by omega
    have hy : (x + 1) % a.length < a.length := Nat.mod_lt _ hlen
    have hnx := nxt_eq hlen (show x < 4611686018427387904 by omega)
    obtain ⟨p, hpx⟩ : ∃ p, a.getD x default = p := ⟨_, rfl⟩
    obtain ⟨q, hqx⟩ : ∃ q, a.getD ((x + 1) % a.length) default = q := ⟨_, rfl⟩
    have hpx' : a.getD (x : Int).toNat default = p := by rw [Int.toNat_natCast]; exact hpx
    have hqx' : a.getD (Int.tmod (w64 ((x : Int) + 1)) ((a.length : Nat) : Int)).toNat default = q := by rw [hnx, Int.toNat_natCast]; exact hqx
    have hp : rng p := by rw [← hpx]; exact all_range hr (show x < a.length by omega)
    have hq : rng q := by rw [← hqx]; exact all_range hr hy
    have ih := has_loop a c hr hc hl m n (x + 1) (bif cro p q c then !b else b) (by omega) (by omega)
    have hi : inb (Int.tmod (w64 ((x : Int) + 1)) ((a.length : Nat) : Int)) a.length = true := by rw [hnx]; exact inb_t (by omega) (by omega)
    have hinc : w64 ((x : Int) + 1) = ((x + 1 : Nat) : Int) := inc_eq (by omega)
    have hS : hasS a c x (m + 1) b = bif onE p q c then .inl true else hasS a c (x + 1) m (bif cro p q c then !b else b) := by rw [hasS, hpx, hqx]
    rw [hS]
    constructor
    · unfold poly_Has_L2
      rw [lt_t (by omega), inb_t (i := (x : Int)) (by omega) (by omega), nz_t (by omega), hi, hpx', hqx', onEdge_eq hp hq hc]
      simp only [cond_true, Option.bind_some]
      rw [k3_eq _ _ hp hq hc, hinc, ih.1]
      cases onE p q c <;> rfl
    · unfold ref09_Has_L2
      rw [lt_t (by omega), inb_t (i := (x : Int)) (by omega) (by omega), nz_t (by omega), hi, hpx', hqx', (cross_eq hp hq hc).2]
      simp only [cond_true, Option.bind_some, rk3_eq _ a (x : Int) hpx' hqx' hp hq hc, hinc, ih.2]
      unfold onE
      cases cross p q c == 0 <;> cases decide (imin p.X q.X ≤ c.X) <;> cases decide (c.X ≤ imax p.X q.X) <;> cases decide (imin p.Y q.Y ≤ c.Y) <;> cases decide (c.Y ≤ imax p.Y q.Y) <;> rfl

def has (a : List Point) (c : Point) : Bool := bif chk a == 0 && inRange c then Sum.elim id id (hasS a c 0 a.length false) else false
theorem chk_facts {a : List Point} (h : chk a = 0) : 3 ≤ a.length ∧ a.length ≤ 32 ∧ a.all inRange = true ∧ area a ≠ 0 := by
  unfold chk at h
  by_cases h1 : ((a.length : Nat) : Int) < 3
  · rw [decide_eq_true h1] at h; cases h
  rw [decide_eq_false h1] at h
  by_cases h2 : ((a.length : Nat) : Int) > 32
  · rw [decide_eq_true h2] at h; cases h
  rw [decide_eq_false h2] at h
  cases h3 : a.all inRange with
  | false => rw [h3] at h; cases h
  | true =>
    rw [h3] at h
    refine ⟨by omega, by omega, rfl, fun h4 => ?_⟩
    rw [h4] at h; cases h
theorem has_eq (a : List Point) (c : Point) : poly_Has a c = some (has a c) ∧ ref09_Has a c = some (has a c) := by
  unfold poly_Has ref09_Has has poly_Has_k1 ref09_Has_k1
  rw [(chk_eq a).1, (chk_eq a).2, ref_range [c] (by simp), within_eq, within_eq]
  simp only [Option.bind_some, List.all_cons, List.all_nil, Bool.and_true]
  cases h : chk a == 0 with
  | false =>
    have : (chk a != 0) = true := by simp only [bne, h]; rfl
    rw [this]
    exact ⟨rfl, rfl⟩
  | true =>
    have : (chk a != 0) = false := by simp only [bne, h]; rfl
    have h0 : chk a = 0 := by simpa using h
    obtain ⟨l1, l2, hr, _⟩ := chk_facts h0
    rw [this]
    cases hc : inRange c with
    | false =>
      unfold inRange at hc
      simp only [Bool.and_false, cond_false, Bool.not_false, cond_true]
      refine ⟨?_, trivial⟩
      cases hx : (decide (-600 ≤ c.X) && decide (c.X ≤ 600)) with
      | false => rfl
      | true => rw [hx, Bool.true_and] at hc; rw [hc]; rfl
    | true =>
      have hcr : rng c := inRange_iff.1 hc
      obtain ⟨e1, e2⟩ := has_loop a c hr hcr (by omega) a.length FUEL 0 false (by omega) (by rw [FUEL_eq]; omega)
      rw [show ((0 : Nat) : Int) = 0 from rfl] at e1 e2
      unfold inRange at hc
      rw [Bool.and_eq_true] at hc
      simp only [hc.1, hc.2, cond_false, Bool.not_true, e1, e2, Option.bind_some, Bool.and_true, cond_true]
      cases hasS a c 0 a.length false <;> exact ⟨rfl, rfl⟩

theorem PolyHas_true (a : List Point) (c : Point) : law09_PolyHas a c = some true := by
  unfold law09_PolyHas law09_few
  simp only [Option.bind_some]
  by_cases h : ((a.length : Nat) : Int) ≤ 100
  · rw [decide_eq_true h]
    simp only [Bool.not_true, cond_false, (has_eq a c).1, (has_eq a c).2, Option.bind_some, beq_self_eq_true, cond_true, awake_true, law09_PolyHas_k1]
  · rw [decide_eq_false h]
    simp only [Bool.not_false, cond_true, awake_true, Option.bind_some]
end Saw
end Go.SL
