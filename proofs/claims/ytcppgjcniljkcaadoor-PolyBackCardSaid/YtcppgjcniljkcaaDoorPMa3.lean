/- Poly's plain mathematics, part 12: the hull turns to the left at every corner (all around). -/
import Derived.Test.YtcppgjcniljkcaaDoorPMa2
set_option linter.unusedVariables false
set_option linter.unusedSimpArgs false
namespace Go.SL
namespace Saw

theorem bot_turn {s : List Point} (hs : StrictS s) (h5 : ¬ (chainR s).length + (chainR s.reverse).length < 5) {x y m : Point} {lo up : List Point} (e1 : chainR s.reverse = m :: x :: up) (e2 : (chainR s).reverse = m :: y :: lo) : 0 < cross x m y := by
  have hs' : StrictS (s.reverse.map ng) := List.pairwise_map.2 (List.pairwise_reverse.2 (hs.imp (fun h => pLt_ng.2 h)))
  have c1 : chainR (s.reverse.map ng) = ng m :: ng x :: up.map ng := by rw [chainR_ng, e1]; rfl
  have c2 : chainR (s.reverse.map ng).reverse = (chainR s).map ng := by rw [← List.map_reverse, List.reverse_reverse, chainR_ng]
  have c3 : (chainR (s.reverse.map ng).reverse).reverse = ng m :: ng y :: lo.map ng := by rw [c2, ← List.map_reverse, e2]; rfl
  have := top_turn hs' (by rw [c2, chainR_ng, List.length_map, List.length_map]; omega) c1 c3
  rwa [cross_ng] at this
theorem getD_app_l {l t : List Point} {x : Nat} (h : x < l.length) : (l ++ t).getD x default = l.getD x default := by rw [List.getD_eq_getElem?_getD, List.getElem?_append_left h, ← List.getD_eq_getElem?_getD]
theorem getD_app_r {l t : List Point} (k : Nat) : (l ++ t).getD (l.length + k) default = t.getD k default := by rw [List.getD_eq_getElem?_getD, List.getElem?_append_right (by omega), Nat.add_sub_cancel_left, ← List.getD_eq_getElem?_getD]
theorem hull_turns {s : List Point} (hs : StrictS s) (h5 : ¬ (chainR s).length + (chainR s.reverse).length < 5) : ∀ x, x < (hullOf s).length → 0 < cross ((hullOf s).getD x default) ((hullOf s).getD ((x + 1) % (hullOf s).length) default) ((hullOf s).getD ((x + 2) % (hullOf s).length) default) := by
  have h3 := (hull_left hs h5).1
  obtain ⟨m, M, lo, up, e1, e2, hm, hM, tm, tM, hlt, ⟨r1, g1⟩, ⟨r2, g2⟩, hH⟩ := hull_form hs h5
  have hi := chain_inv hs
  have hu := up_inv hs
  have lone : lo ≠ [] := fun e => by rw [e] at g1; simp at g1
  have upne : up ≠ [] := fun e => by rw [e] at g2; simp at g2
  obtain ⟨x0, lo', ex⟩ := List.exists_cons_of_ne_nil lone
  obtain ⟨x1, up', ex'⟩ := List.exists_cons_of_ne_nil upne
  have T1 := turns_rev hi.turns
  have T2 := turns_rev hu.turns
  rw [e1, ex, List.reverse_cons, List.reverse_cons, List.append_assoc] at T1
  -- the upper walk begins with M, y
  obtain ⟨y, r3, ey⟩ : ∃ y r3, (chainR s.reverse).reverse = M :: y :: r3 := by
    rw [e2, List.reverse_cons, g2, List.cons_append]
    cases r2 with
    | nil => exact ⟨m, [], rfl⟩
    | cons y r => exact ⟨y, r ++ [m], rfl⟩
  obtain ⟨y', r4, ey'⟩ : ∃ y r4, (chainR s).reverse = m :: y :: r4 := by
    rw [e1, List.reverse_cons, g1, List.cons_append]
    cases r1 with
    | nil => exact ⟨M, [], rfl⟩
    | cons y r => exact ⟨y, r ++ [M], rfl⟩
  have k1 := top_turn hs h5 (e1.trans (by rw [ex])) ey
  have k2 := bot_turn hs h5 (e2.trans (by rw [ex'])) ey'
  rw [ey] at T2
  have W1 : TurnsF (lo'.reverse ++ x0 :: M :: y :: r3) := turnsF_join T1 ⟨k1, T2⟩
  have eW : lo'.reverse ++ x0 :: M :: y :: r3 = hullOf s ++ [m] := by
    rw [hH, ex, List.reverse_cons, List.append_assoc, List.append_assoc]
    congr 1
    show x0 :: M :: y :: r3 = x0 :: (up.reverse ++ [m])
    congr 1
    rw [← ey, e2, List.reverse_cons]
  have eH : ∃ q, hullOf s = q ++ [x1] := ⟨lo.reverse ++ up'.reverse, by rw [hH, ex', List.reverse_cons, List.append_assoc]⟩
  obtain ⟨q, hq⟩ := eH
  rw [eW] at W1
  have W2 : TurnsF (hullOf s ++ [m, y']) := by
    rw [hq, List.append_assoc] at W1 ⊢
    exact turnsF_join W1 ⟨k2, trivial⟩
  have h0 : (hullOf s).getD 0 default = m := by rw [hH, g1]; rfl
  have h1 : (hullOf s).getD 1 default = y' := by
    have : (hullOf s) = (lo.reverse ++ [M]) ++ r2 := by rw [hH, g2, List.append_assoc]; rfl
    have hlr : lo.reverse ++ [M] = m :: y' :: r4 := by rw [← ey', e1, List.reverse_cons]
    rw [this, hlr]; rfl
  intro x hx
  have w := turnsF_get W2 x (by simp; omega)
  rw [getD_app_l hx] at w
  have a1 : (hullOf s ++ [m, y']).getD (x + 1) default = (hullOf s).getD ((x + 1) % (hullOf s).length) default := by
    by_cases hx1 : x + 1 < (hullOf s).length
    · rw [Nat.mod_eq_of_lt hx1, getD_app_l hx1]
    · have e : x + 1 = (hullOf s).length := by omega
      rw [e, Nat.mod_self, h0]
      exact getD_app_r 0
  have a2 : (hullOf s ++ [m, y']).getD (x + 2) default = (hullOf s).getD ((x + 2) % (hullOf s).length) default := by
    by_cases hx1 : x + 2 < (hullOf s).length
    · rw [Nat.mod_eq_of_lt hx1, getD_app_l hx1]
    · by_cases hx2 : x + 2 = (hullOf s).length
      · rw [hx2, Nat.mod_self, h0]
        exact getD_app_r 0
      · have e : x + 2 = (hullOf s).length + 1 := by omega
        rw [e, Nat.add_mod_left, Nat.mod_eq_of_lt (by omega), h1]
        exact getD_app_r 1
  rw [a1, a2] at w
  exact w
end Saw
end Go.SL

namespace Go.SL
namespace Saw

theorem tdiv_facts (a b : Int) (hb : 0 < b) : Int.tmod a b + b * Int.tdiv a b = a ∧ Int.tmod a b < b ∧ -b < Int.tmod a b ∧ (Int.tdiv a b).natAbs ≤ a.natAbs := by
  refine ⟨Int.tmod_add_mul_tdiv a b, Int.tmod_lt_of_pos a hb, ?_, ?_⟩
  · rcases Int.le_total 0 a with h | h
    · have := Int.tmod_nonneg b h; omega
    · have h3 := Int.tmod_lt_of_pos (-a) hb
      rw [Int.neg_tmod] at h3
      omega
  · rw [Int.natAbs_tdiv]; exact Nat.div_le_self _ _

theorem ediv_of {a b q r : Int} (hb : 0 < b) (h : r + b * q = a) (h0 : 0 ≤ r) (h1 : r < b) : a / b = q := (Int.ediv_emod_unique hb).2 ⟨h, h0, h1⟩ |>.1

theorem floor_eq (a b : Int) (hb : 0 < b) (h1 : -4611686018427387904 ≤ a) (h2 : a ≤ 4611686018427387904) : poly_floor a b = some (a / b) := by
  obtain ⟨e, l, g, n⟩ := tdiv_facts a b hb
  unfold poly_floor poly_floor_k1
  rw [nz_t (by omega), w64_id (n := Int.tdiv a b) (by omega) (by omega)]
  by_cases h : Int.tmod a b < 0
  · rw [decide_eq_true h, w64_id (by omega) (by omega)]
    have : a / b = Int.tdiv a b - 1 := ediv_of hb (r := Int.tmod a b + b) (by rw [Int.mul_sub, Int.mul_one]; omega) (by omega) (by omega)
    rw [this]; rfl
  · rw [decide_eq_false h]
    have : a / b = Int.tdiv a b := ediv_of hb (r := Int.tmod a b) e (by omega) l
    rw [this]; rfl
theorem ref_floor_eq (a b : Int) (hb : 0 < b) (h3 : b ≤ 4611686018427387904) (h1 : -4611686018427387904 ≤ a) (h2 : a ≤ 4611686018427387904) : ref09_floor a b = some (a / b) := by
  obtain ⟨e, l, g, n⟩ := tdiv_facts a b hb
  have hc : Int.tdiv a b * b = b * Int.tdiv a b := Int.mul_comm _ _
  unfold ref09_floor ref09_floor_k1
  rw [nz_t (by omega), w64_id (n := Int.tdiv a b) (by omega) (by omega), w64_id (n := Int.tdiv a b * b) (by omega) (by omega)]
  by_cases h : Int.tmod a b < 0
  · rw [decide_eq_true (by omega), w64_id (by omega) (by omega)]
    have : a / b = Int.tdiv a b - 1 := ediv_of hb (r := Int.tmod a b + b) (by rw [Int.mul_sub, Int.mul_one]; omega) (by omega) (by omega)
    rw [this]; rfl
  · rw [decide_eq_false (by omega)]
    have : a / b = Int.tdiv a b := ediv_of hb (r := Int.tmod a b) e (by omega) l
    rw [this]; rfl


/-- The greatest X at height y to the left of an edge that goes up. -/
def upB (p q : Point) (y : Int) : Int := p.X + (q.X - p.X) * (y - p.Y) / (q.Y - p.Y)
/-- The least X at height y to the left of an edge that goes down. -/
def dnB (p q : Point) (y : Int) : Int := p.X - (q.X - p.X) * (y - p.Y) / (p.Y - q.Y)
theorem upB_iff {p q : Point} (h : p.Y < q.Y) (X y : Int) : X ≤ upB p q y ↔ 0 ≤ cross p q ⟨X, y⟩ := by
  unfold upB cross
  have := Int.le_ediv_iff_mul_le (a := X - p.X) (b := (q.X - p.X) * (y - p.Y)) (show 0 < q.Y - p.Y by omega)
  constructor
  · intro h1
    have h2 := this.1 (by omega)
    simp only; omega
  · intro h1
    have h2 := this.2 (by simp only at h1; omega)
    omega
theorem dnB_iff {p q : Point} (h : q.Y < p.Y) (X y : Int) : dnB p q y ≤ X ↔ 0 ≤ cross p q ⟨X, y⟩ := by
  unfold dnB cross
  have := Int.le_ediv_iff_mul_le (a := p.X - X) (b := (q.X - p.X) * (y - p.Y)) (show 0 < p.Y - q.Y by omega)
  have e : (p.X - X) * (p.Y - q.Y) = (X - p.X) * (q.Y - p.Y) := by grind
  rw [e] at this
  constructor
  · intro h1
    have h2 := this.1 (by omega)
    simp only; omega
  · intro h1
    have h2 := this.2 (by simp only at h1; omega)
    omega
/-- As the code writes the other bound. -/
theorem dnB_eq {p q : Point} (h : q.Y < p.Y) (y : Int) : q.X - (q.X - p.X) * (y - q.Y) / (p.Y - q.Y) = dnB p q y := by
  unfold dnB
  have e : (q.X - p.X) * (y - q.Y) = (q.X - p.X) * (y - p.Y) + (q.X - p.X) * (p.Y - q.Y) := by grind
  rw [e, Int.add_mul_ediv_right _ _ (by omega)]
  omega
/-- What lies at height y on an edge that spans it lies left of every edge that has both its ends on its left: a bound that goes up. -/
theorem up_up {p q u v : Point} {y : Int} (hpq : p.Y < q.Y) (hy1 : p.Y ≤ y) (hy2 : y ≤ q.Y) (huv : u.Y < v.Y) (h1 : 0 ≤ cross u v p) (h2 : 0 ≤ cross u v q) : upB p q y ≤ upB u v y := by
  rw [upB_iff huv]
  have hb := (upB_iff hpq (upB p q y) y).1 (Int.le_refl _)
  generalize upB p q y = X at hb
  have hD : 0 < q.Y - p.Y := by omega
  have key : (q.Y - p.Y) * cross u v ⟨X, y⟩ = (q.Y - y) * cross u v p + (y - p.Y) * cross u v q + (v.Y - u.Y) * cross p q ⟨X, y⟩ := by unfold cross; grind
  have a1 := Int.mul_nonneg (show 0 ≤ q.Y - y by omega) h1
  have a2 := Int.mul_nonneg (show 0 ≤ y - p.Y by omega) h2
  have a3 := Int.mul_nonneg (show 0 ≤ v.Y - u.Y by omega) hb
  have : 0 ≤ (q.Y - p.Y) * cross u v ⟨X, y⟩ := by rw [key]; omega
  exact Int.nonneg_of_mul_nonneg_right this hD
/-- The same for edges that go down. -/
theorem dn_dn {p q u v : Point} {y : Int} (hpq : q.Y < p.Y) (hy1 : q.Y ≤ y) (hy2 : y ≤ p.Y) (huv : v.Y < u.Y) (h1 : 0 ≤ cross u v p) (h2 : 0 ≤ cross u v q) : dnB u v y ≤ dnB p q y := by
  rw [dnB_iff huv]
  have hb := (dnB_iff hpq (dnB p q y) y).1 (Int.le_refl _)
  generalize dnB p q y = X at hb
  have hD : 0 < p.Y - q.Y := by omega
  have key : (p.Y - q.Y) * cross u v ⟨X, y⟩ = (y - q.Y) * cross u v p + (p.Y - y) * cross u v q + (u.Y - v.Y) * cross p q ⟨X, y⟩ := by unfold cross; grind
  have a1 := Int.mul_nonneg (show 0 ≤ y - q.Y by omega) h1
  have a2 := Int.mul_nonneg (show 0 ≤ p.Y - y by omega) h2
  have a3 := Int.mul_nonneg (show 0 ≤ u.Y - v.Y by omega) hb
  have : 0 ≤ (p.Y - q.Y) * cross u v ⟨X, y⟩ := by rw [key]; omega
  exact Int.nonneg_of_mul_nonneg_right this hD
end Saw
end Go.SL

namespace Go.SL
namespace Saw

theorem ediv_b {N D : Int} (hD : 0 < D) (h1 : -1440000 ≤ N) (h2 : N ≤ 1440000) : -1440000 ≤ N / D ∧ N / D ≤ 1440000 := by
  constructor
  · rw [Int.le_ediv_iff_mul_le hD]
    have := Int.mul_le_mul_of_nonneg_left (a := -1440000) (b := 0) (c := D - 1) (by decide) (by omega)
    have e : (-1440000) * D = (D - 1) * (-1440000) + (-1440000) := by grind
    omega
  · have := Int.ediv_lt_of_lt_mul (a := N) (b := 1440001) hD (by
      have := Int.mul_nonneg (show (0 : Int) ≤ 1440001 by decide) (show 0 ≤ D - 1 by omega)
      have e : 1440001 * D = 1440001 * (D - 1) + 1440001 := by grind
      omega)
    omega
def pstep (p q : Point) (y : Int) (r : Int × Int) : Int × Int :=
  if p.Y < q.Y ∧ p.Y ≤ y ∧ y ≤ q.Y then (r.1, upB p q y) else if q.Y < p.Y ∧ q.Y ≤ y ∧ y ≤ p.Y then (dnB p q y, r.2) else r
def pS (H : List Point) (y : Int) : Nat → Nat → Int × Int → Int × Int
  | _, 0, r => r
  | x, m + 1, r => pS H y (x + 1) m (pstep (H.getD x default) (H.getD ((x + 1) % H.length) default) y r)
/-- Both, with those that refuse. -/
def rstep (p q : Point) (y : Int) (r : Int × Int) : Option (Int × Int) :=
  if p.Y < q.Y then some (r.1, imin r.2 (upB p q y)) else if q.Y < p.Y then some (imax r.1 (dnB p q y), r.2) else if (q.X - p.X) * (y - p.Y) < 0 then none else some r
def rS (H : List Point) (y : Int) : Nat → Nat → Int × Int → (Int × Int) ⊕ (Int × Int)
  | _, 0, r => .inr r
  | x, m + 1, r => match rstep (H.getD x default) (H.getD ((x + 1) % H.length) default) y r with
    | some r' => rS H y (x + 1) m r'
    | none => .inl (1, 0)
end Saw
end Go.SL

namespace Go.SL
namespace Saw

theorem num_b {p q : Point} {y : Int} (hp : rng p) (hq : rng q) (hy : -600 ≤ y ∧ y ≤ 600) : -1440000 ≤ (q.X - p.X) * (y - p.Y) ∧ (q.X - p.X) * (y - p.Y) ≤ 1440000 := by
  obtain ⟨⟨p1, p2⟩, p3, p4⟩ := hp
  obtain ⟨⟨q1, q2⟩, q3, q4⟩ := hq
  exact mul_bound (m := 1200) (n := 1200) (by omega) (by omega) (by omega) (by omega) (by decide) (by decide)
theorem across_loop (H : List Point) (y : Int) (hr : ∀ p ∈ H, rng p) (hy : -600 ≤ y ∧ y ≤ 600) (hl : H.length ≤ 1000000) : ∀ (m n x : Nat) (lo hi : Int), x + m = H.length → m < n → ref09_across_L1 H y n lo hi (x : Int) = some (rS H y x m (lo, hi))
  | _, 0, x, _, _, _, hn => by omega
  | 0, n + 1, x, lo, hi, hx, _ => by
    unfold ref09_across_L1 rS
    rw [lt_f (by omega)]
    rfl
  | m + 1, n + 1, x, lo, hi, hx, hn => by
    have hlen : 0 < H.length := by omega
    have hyy : (x + 1) % H.length < H.length := Nat.mod_lt _ hlen
    have hnx := nxt_eq hlen (show x < 4611686018427387904 by omega)
    obtain ⟨p, hpx⟩ : ∃ p, H.getD x default = p := ⟨_, rfl⟩
    obtain ⟨q, hqx⟩ : ∃ q, H.getD ((x + 1) % H.length) default = q := ⟨_, rfl⟩
    have hpx' : H.getD (x : Int).toNat default = p := by rw [Int.toNat_natCast]; exact hpx
    have hqx' : H.getD (Int.tmod (w64 ((x : Int) + 1)) ((H.length : Nat) : Int)).toNat default = q := by rw [hnx, Int.toNat_natCast]; exact hqx
    have hp : rng p := by rw [← hpx]; exact hr _ (getD_mem' (by omega))
    have hq : rng q := by rw [← hqx]; exact hr _ (getD_mem' hyy)
    have ih := fun lo hi => across_loop H y hr hy hl m n (x + 1) lo hi (by omega) (by omega)
    have hi' : inb (Int.tmod (w64 ((x : Int) + 1)) ((H.length : Nat) : Int)) H.length = true := by rw [hnx]; exact inb_t (by omega) (by omega)
    have hinc : w64 ((x : Int) + 1) = ((x + 1 : Nat) : Int) := inc_eq (by omega)
    have nb := num_b hp hq hy
    have hp' := hp
    have hq' := hq
    obtain ⟨⟨p1, p2⟩, p3, p4⟩ := hp'
    obtain ⟨⟨q1, q2⟩, q3, q4⟩ := hq'
    unfold ref09_across_L1 rS
    rw [lt_t (by omega), inb_t (i := (x : Int)) (by omega) (by omega), nz_t (by omega), hi', hpx', hqx', hpx, hqx]
    simp only [cond_true]
    rw [w64_id (n := q.Y - p.Y) (by omega) (by omega), w64_id (n := q.X - p.X) (by omega) (by omega), w64_id (n := y - p.Y) (by omega) (by omega), w64_id (n := (q.X - p.X) * (y - p.Y)) (by omega) (by omega)]
    unfold rstep ref09_across_k2
    by_cases h1 : p.Y < q.Y
    · have eb := ediv_b (show 0 < q.Y - p.Y by omega) nb.1 nb.2
      rw [decide_eq_true (show q.Y - p.Y > 0 by omega), if_pos h1, ref_floor_eq _ _ (by omega) (by omega) (by omega) (by omega)]
      simp only [cond_true, Option.bind_some]
      rw [w64_id (n := p.X + _) (by omega) (by omega), hinc, ih]
      rfl
    · rw [decide_eq_false (show ¬ q.Y - p.Y > 0 by omega), if_neg h1]
      by_cases h2 : q.Y < p.Y
      · have eb := ediv_b (show 0 < p.Y - q.Y by omega) nb.1 nb.2
        have e5 : w64 (0 - (q.Y - p.Y)) = p.Y - q.Y := (w64_id (n := 0 - (q.Y - p.Y)) (by omega) (by omega)).trans (by omega)
        rw [decide_eq_true (show q.Y - p.Y < 0 by omega), if_pos h2, e5, ref_floor_eq _ (p.Y - q.Y) (by omega) (by omega) (by omega) (by omega)]
        simp only [cond_true, cond_false, Option.bind_some]
        rw [w64_id (n := p.X - _) (by omega) (by omega), hinc, ih]
        rfl
      · rw [decide_eq_false (show ¬ q.Y - p.Y < 0 by omega), if_neg h2]
        simp only [cond_false]
        by_cases h3 : (q.X - p.X) * (y - p.Y) < 0
        · rw [decide_eq_true h3, if_pos h3]; rfl
        · rw [decide_eq_false h3, if_neg h3, hinc]
          simp only [cond_false]
          exact ih lo hi
end Saw
end Go.SL

namespace Go.SL
namespace Saw

theorem chord_loop (H : List Point) (y : Int) (hr : ∀ p ∈ H, rng p) (hy : -600 ≤ y ∧ y ≤ 600) (hl : H.length ≤ 1000000) : ∀ (m n x : Nat) (r : Int × Int), x + m = H.length → m < n → poly_Chord_1_L1 y H n r.1 r.2 (x : Int) = some (pS H y x m r)
  | _, 0, x, _, _, hn => by omega
  | 0, n + 1, x, r, hx, _ => by
    unfold poly_Chord_1_L1 pS
    rw [lt_f (by omega)]
    rfl
  | m + 1, n + 1, x, r, hx, hn => by
    have hlen : 0 < H.length := by omega
    have hyy : (x + 1) % H.length < H.length := Nat.mod_lt _ hlen
    have hnx := nxt_eq hlen (show x < 4611686018427387904 by omega)
    obtain ⟨p, hpx⟩ : ∃ p, H.getD x default = p := ⟨_, rfl⟩
    obtain ⟨q, hqx⟩ : ∃ q, H.getD ((x + 1) % H.length) default = q := ⟨_, rfl⟩
    have hpx' : H.getD (x : Int).toNat default = p := by rw [Int.toNat_natCast]; exact hpx
    have hqx' : H.getD (Int.tmod (w64 ((x : Int) + 1)) ((H.length : Nat) : Int)).toNat default = q := by rw [hnx, Int.toNat_natCast]; exact hqx
    have hp : rng p := by rw [← hpx]; exact hr _ (getD_mem' (by omega))
    have hq : rng q := by rw [← hqx]; exact hr _ (getD_mem' hyy)
    have ih := fun r => chord_loop H y hr hy hl m n (x + 1) r (by omega) (by omega)
    have hi' : inb (Int.tmod (w64 ((x : Int) + 1)) ((H.length : Nat) : Int)) H.length = true := by rw [hnx]; exact inb_t (by omega) (by omega)
    have hinc : w64 ((x : Int) + 1) = ((x + 1 : Nat) : Int) := inc_eq (by omega)
    have nb := num_b hp hq hy
    have nb2 := num_b hq hp hy
    have hp' := hp
    have hq' := hq
    obtain ⟨⟨p1, p2⟩, p3, p4⟩ := hp'
    obtain ⟨⟨q1, q2⟩, q3, q4⟩ := hq'
    have nb3 : -1440000 ≤ (q.X - p.X) * (y - q.Y) ∧ (q.X - p.X) * (y - q.Y) ≤ 1440000 := by
      have e : (q.X - p.X) * (y - q.Y) = -((p.X - q.X) * (y - q.Y)) := by clear nb nb2; grind
      omega
    unfold poly_Chord_1_L1 pS
    rw [lt_t (by omega), inb_t (i := (x : Int)) (by omega) (by omega), nz_t (by omega), hi']
    unfold poly_Chord_1_k2 poly_Chord_1_k3 poly_Chord_1_k4
    rw [hpx', hqx', hpx, hqx]
    simp only [cond_true]
    rw [w64_id (n := q.Y - p.Y) (by omega) (by omega), w64_id (n := p.Y - q.Y) (by omega) (by omega), w64_id (n := q.X - p.X) (by omega) (by omega), w64_id (n := y - p.Y) (by omega) (by omega), w64_id (n := y - q.Y) (by omega) (by omega), w64_id (n := (q.X - p.X) * (y - p.Y)) (by omega) (by omega), w64_id (n := (q.X - p.X) * (y - q.Y)) (by omega) (by omega), hinc]
    unfold pstep
    by_cases h1 : p.Y < q.Y
    · have h1' : ¬ p.Y > q.Y := by omega
      have h1'' : ¬ q.Y < p.Y := by omega
      have eb := ediv_b (show 0 < q.Y - p.Y by omega) nb.1 nb.2
      rw [floor_eq _ (q.Y - p.Y) (by omega) (by omega) (by omega)]
      by_cases h2 : p.Y ≤ y
      · by_cases h3 : y ≤ q.Y
        · rw [if_pos ⟨h1, h2, h3⟩]
          simp only [h1, h2, h3, decide_true, cond_true, Option.bind_some]
          rw [w64_id (n := p.X + _) (by omega) (by omega)]
          exact ih (r.1, upB p q y)
        · rw [if_neg (by omega), if_neg (by omega)]
          simp only [h1, h2, h3, h1', h1'', decide_true, decide_false, cond_true, cond_false]
          exact ih r
      · rw [if_neg (by omega), if_neg (by omega)]
        simp only [h1, h2, h1', h1'', decide_true, decide_false, cond_true, cond_false]
        exact ih r
    · by_cases h2 : q.Y < p.Y
      · have h2' : p.Y > q.Y := h2
        have eb := ediv_b (show 0 < p.Y - q.Y by omega) nb3.1 nb3.2
        rw [floor_eq _ (p.Y - q.Y) (by omega) (by omega) (by omega)]
        by_cases h3 : q.Y ≤ y
        · by_cases h4 : y ≤ p.Y
          · rw [if_neg (by omega), if_pos ⟨h2, h3, h4⟩, ← dnB_eq h2 y]
            simp only [h1, h2', h3, h4, decide_true, decide_false, cond_true, cond_false, Option.bind_some]
            rw [w64_id (n := q.X - _) (by omega) (by omega)]
            exact ih (q.X - (q.X - p.X) * (y - q.Y) / (p.Y - q.Y), r.2)
          · rw [if_neg (by omega), if_neg (by omega)]
            simp only [h1, h2', h3, h4, decide_true, decide_false, cond_true, cond_false]
            exact ih r
        · rw [if_neg (by omega), if_neg (by omega)]
          simp only [h1, h2', h3, decide_true, decide_false, cond_true, cond_false]
          exact ih r
      · have h2' : ¬ p.Y > q.Y := h2
        rw [if_neg (by omega), if_neg (by omega)]
        simp only [h1, h2', decide_false, cond_false]
        exact ih r
end Saw
end Go.SL

namespace Go.SL
namespace Saw

abbrev spU (p q : Point) (y : Int) : Prop := p.Y < q.Y ∧ p.Y ≤ y ∧ y ≤ q.Y
abbrev spD (p q : Point) (y : Int) : Prop := q.Y < p.Y ∧ q.Y ≤ y ∧ y ≤ p.Y
theorem pS_up (H : List Point) (y : Int) : ∀ (m x : Nat) (r : Int × Int), ((pS H y x m r).2 = r.2 ∧ ∀ j, x ≤ j → j < x + m → ¬ spU (H.getD j default) (H.getD ((j + 1) % H.length) default) y) ∨ ∃ j, x ≤ j ∧ j < x + m ∧ spU (H.getD j default) (H.getD ((j + 1) % H.length) default) y ∧ (pS H y x m r).2 = upB (H.getD j default) (H.getD ((j + 1) % H.length) default) y
  | 0, x, r => .inl ⟨rfl, fun j h1 h2 => by omega⟩
  | m + 1, x, r => by
    unfold pS
    rcases pS_up H y m (x + 1) (pstep (H.getD x default) (H.getD ((x + 1) % H.length) default) y r) with ⟨h1, h2⟩ | ⟨j, h1, h2, h3, h4⟩
    · by_cases hs : spU (H.getD x default) (H.getD ((x + 1) % H.length) default) y
      · refine .inr ⟨x, Nat.le_refl _, by omega, hs, ?_⟩
        rw [h1]; unfold pstep; rw [if_pos hs]
      · refine .inl ⟨?_, fun j hj1 hj2 => ?_⟩
        · rw [h1]; unfold pstep; rw [if_neg hs]; split <;> rfl
        · by_cases hjx : j = x
          · subst hjx; exact hs
          · exact h2 j (by omega) (by omega)
    · exact .inr ⟨j, by omega, by omega, h3, h4⟩
theorem pS_dn (H : List Point) (y : Int) : ∀ (m x : Nat) (r : Int × Int), ((pS H y x m r).1 = r.1 ∧ ∀ j, x ≤ j → j < x + m → ¬ spD (H.getD j default) (H.getD ((j + 1) % H.length) default) y) ∨ ∃ j, x ≤ j ∧ j < x + m ∧ spD (H.getD j default) (H.getD ((j + 1) % H.length) default) y ∧ (pS H y x m r).1 = dnB (H.getD j default) (H.getD ((j + 1) % H.length) default) y
  | 0, x, r => .inl ⟨rfl, fun j h1 h2 => by omega⟩
  | m + 1, x, r => by
    unfold pS
    rcases pS_dn H y m (x + 1) (pstep (H.getD x default) (H.getD ((x + 1) % H.length) default) y r) with ⟨h1, h2⟩ | ⟨j, h1, h2, h3, h4⟩
    · by_cases hs : spD (H.getD x default) (H.getD ((x + 1) % H.length) default) y
      · refine .inr ⟨x, Nat.le_refl _, by omega, hs, ?_⟩
        rw [h1]; unfold pstep; rw [if_neg (by omega), if_pos hs]
      · refine .inl ⟨?_, fun j hj1 hj2 => ?_⟩
        · rw [h1]; unfold pstep; rw [if_neg hs]; split <;> rfl
        · by_cases hjx : j = x
          · subst hjx; exact hs
          · exact h2 j (by omega) (by omega)
    · exact .inr ⟨j, by omega, by omega, h3, h4⟩
end Saw
end Go.SL

namespace Go.SL
namespace Saw

abbrev Ep (H : List Point) (j : Nat) : Point := H.getD j default
abbrev Eq' (H : List Point) (j : Nat) : Point := H.getD ((j + 1) % H.length) default
/-- A horizontal edge that has height y on its right. -/
def bad (p q : Point) (y : Int) : Prop := ¬ p.Y < q.Y ∧ ¬ q.Y < p.Y ∧ (q.X - p.X) * (y - p.Y) < 0
theorem imin_le {a b X : Int} : X ≤ imin a b ↔ X ≤ a ∧ X ≤ b := by unfold imin; split <;> omega
theorem imax_le {a b X : Int} : imax a b ≤ X ↔ a ≤ X ∧ b ≤ X := by unfold imax; split <;> omega
theorem rS_spec (H : List Point) (y : Int) : ∀ (m x : Nat) (r : Int × Int),
    ((∃ j, x ≤ j ∧ j < x + m ∧ bad (Ep H j) (Eq' H j) y) ∧ rS H y x m r = .inl (1, 0)) ∨
    ((∀ j, x ≤ j → j < x + m → ¬ bad (Ep H j) (Eq' H j) y) ∧ ∃ r', rS H y x m r = .inr r' ∧ (∀ X, r'.1 ≤ X ↔ r.1 ≤ X ∧ ∀ j, x ≤ j → j < x + m → (Eq' H j).Y < (Ep H j).Y → dnB (Ep H j) (Eq' H j) y ≤ X) ∧ (∀ X, X ≤ r'.2 ↔ X ≤ r.2 ∧ ∀ j, x ≤ j → j < x + m → (Ep H j).Y < (Eq' H j).Y → X ≤ upB (Ep H j) (Eq' H j) y))
  | 0, x, r => .inr ⟨fun j h1 h2 => by omega, r, rfl, fun X => ⟨fun h => ⟨h, fun j h1 h2 => by omega⟩, fun h => h.1⟩, fun X => ⟨fun h => ⟨h, fun j h1 h2 => by omega⟩, fun h => h.1⟩⟩
  | m + 1, x, r => by
    have all : ∀ {P : Nat → Prop}, (∀ j, x ≤ j → j < x + (m + 1) → P j) ↔ P x ∧ ∀ j, x + 1 ≤ j → j < x + 1 + m → P j := fun {P} =>
      ⟨fun h => ⟨h x (Nat.le_refl _) (by omega), fun j h1 h2 => h j (by omega) (by omega)⟩, fun h j h1 h2 => by
        by_cases hj : j = x
        · subst hj; exact h.1
        · exact h.2 j (by omega) (by omega)⟩
    unfold rS
    by_cases h1 : (Ep H x).Y < (Eq' H x).Y
    · have e : rstep (Ep H x) (Eq' H x) y r = some (r.1, imin r.2 (upB (Ep H x) (Eq' H x) y)) := by unfold rstep; rw [if_pos h1]
      rw [e]
      rcases rS_spec H y m (x + 1) (r.1, imin r.2 (upB (Ep H x) (Eq' H x) y)) with ⟨⟨j, j1, j2, j3⟩, h⟩ | ⟨h, r', e', h2, h3⟩
      · exact .inl ⟨⟨j, by omega, by omega, j3⟩, h⟩
      · refine .inr ⟨all.2 ⟨fun hb => hb.1 h1, h⟩, r', e', fun X => ?_, fun X => ?_⟩
        · rw [h2 X, all]
          exact ⟨fun ⟨a, b⟩ => ⟨a, fun hh => by omega, b⟩, fun ⟨a, _, b⟩ => ⟨a, b⟩⟩
        · rw [h3 X, all, imin_le]
          exact ⟨fun ⟨⟨a, a'⟩, b⟩ => ⟨a, fun _ => a', b⟩, fun ⟨a, a', b⟩ => ⟨⟨a, a' h1⟩, b⟩⟩
    · by_cases h2 : (Eq' H x).Y < (Ep H x).Y
      · have e : rstep (Ep H x) (Eq' H x) y r = some (imax r.1 (dnB (Ep H x) (Eq' H x) y), r.2) := by unfold rstep; rw [if_neg h1, if_pos h2]
        rw [e]
        rcases rS_spec H y m (x + 1) (imax r.1 (dnB (Ep H x) (Eq' H x) y), r.2) with ⟨⟨j, j1, j2, j3⟩, h⟩ | ⟨h, r', e', h3, h4⟩
        · exact .inl ⟨⟨j, by omega, by omega, j3⟩, h⟩
        · refine .inr ⟨all.2 ⟨fun hb => hb.2.1 h2, h⟩, r', e', fun X => ?_, fun X => ?_⟩
          · rw [h3 X, all, imax_le]
            exact ⟨fun ⟨⟨a, a'⟩, b⟩ => ⟨a, fun _ => a', b⟩, fun ⟨a, a', b⟩ => ⟨⟨a, a' h2⟩, b⟩⟩
          · rw [h4 X, all]
            exact ⟨fun ⟨a, b⟩ => ⟨a, fun hh => absurd hh h1, b⟩, fun ⟨a, _, b⟩ => ⟨a, b⟩⟩
      · by_cases h3 : ((Eq' H x).X - (Ep H x).X) * (y - (Ep H x).Y) < 0
        · have e : rstep (Ep H x) (Eq' H x) y r = none := by unfold rstep; rw [if_neg h1, if_neg h2, if_pos h3]
          rw [e]
          exact .inl ⟨⟨x, Nat.le_refl _, by omega, h1, h2, h3⟩, rfl⟩
        · have e : rstep (Ep H x) (Eq' H x) y r = some r := by unfold rstep; rw [if_neg h1, if_neg h2, if_neg h3]
          rw [e]
          rcases rS_spec H y m (x + 1) r with ⟨⟨j, j1, j2, j3⟩, h⟩ | ⟨h, r', e', h4, h5⟩
          · exact .inl ⟨⟨j, by omega, by omega, j3⟩, h⟩
          · refine .inr ⟨all.2 ⟨fun hb => h3 hb.2.2, h⟩, r', e', fun X => ?_, fun X => ?_⟩
            · rw [h4 X, all]
              exact ⟨fun ⟨a, b⟩ => ⟨a, fun hh => absurd hh h2, b⟩, fun ⟨a, _, b⟩ => ⟨a, b⟩⟩
            · rw [h5 X, all]
              exact ⟨fun ⟨a, b⟩ => ⟨a, fun hh => absurd hh h1, b⟩, fun ⟨a, _, b⟩ => ⟨a, b⟩⟩
end Saw
end Go.SL

namespace Go.SL
namespace Saw

theorem cyc_all {n : Nat} {P : Nat → Prop} {i : Nat} (hi : i < n) (h0 : P i) (hs : ∀ x, x < n → P x → P ((x + 1) % n)) : ∀ x, x < n → P x := by
  have step : ∀ k, P ((i + k) % n) := by
    intro k
    induction k with
    | zero => rw [Nat.add_zero, Nat.mod_eq_of_lt hi]; exact h0
    | succ k ih =>
      have := hs _ (Nat.mod_lt _ (by omega)) ih
      rw [Nat.mod_add_mod] at this
      exact this
  intro x hx
  by_cases h : i ≤ x
  · have := step (x - i)
    rw [show i + (x - i) = x by omega, Nat.mod_eq_of_lt hx] at this
    exact this
  · have := step (n - i + x)
    rw [show i + (n - i + x) = n + x by omega, Nat.add_mod_left, Nat.mod_eq_of_lt hx] at this
    exact this
structure Cvx (H : List Point) : Prop where
  n3 : 3 ≤ H.length
  rg : ∀ p ∈ H, rng p
  lf : ∀ x, x < H.length → ∀ p ∈ H, 0 ≤ cross (Ep H x) (Eq' H x) p
  tn : ∀ x, x < H.length → 0 < cross (Ep H x) (Eq' H x) (Ep H ((x + 2) % H.length))
theorem mem_ix {H : List Point} {p : Point} (h : p ∈ H) : ∃ x, x < H.length ∧ Ep H x = p := by
  obtain ⟨x, hx, e⟩ := List.mem_iff_getElem.1 h
  exact ⟨x, hx, by rw [Ep, getD_el' hx]; exact e⟩
theorem not_flat {H : List Point} (hc : Cvx H) (c : Int) : ¬ ∀ p ∈ H, p.Y = c := by
  intro h
  have hn := hc.n3
  have t := hc.tn 0 (by omega)
  have y0 := h (Ep H 0) (getD_mem' (by omega))
  have y1 := h (Eq' H 0) (getD_mem' (Nat.mod_lt _ (by omega)))
  have y2 := h (Ep H ((0 + 2) % H.length)) (getD_mem' (Nat.mod_lt _ (by omega)))
  unfold cross at t
  rw [y0, y1, y2] at t
  simp at t
/-- A height between those of two corners is spanned by an edge that goes up. -/
theorem span_up {H : List Point} (hc : Cvx H) {y : Int} {a b : Point} (ha : a ∈ H) (hb : b ∈ H) (h1 : a.Y ≤ y) (h2 : y ≤ b.Y) : ∃ j, j < H.length ∧ spU (Ep H j) (Eq' H j) y := by
  refine Classical.byContradiction fun hno => ?_
  have no : ∀ j, j < H.length → ¬ spU (Ep H j) (Eq' H j) y := fun j hj hs => hno ⟨j, hj, hs⟩
  by_cases hlow : ∃ p ∈ H, p.Y < y
  · obtain ⟨p, hp, hpy⟩ := hlow
    obtain ⟨i, hi, e⟩ := mem_ix hp
    have := cyc_all (P := fun x => (Ep H x).Y < y) hi (by rw [e]; exact hpy) (fun x hx hx' => by
      have h3 : ¬ ((Ep H x).Y < (Eq' H x).Y ∧ (Ep H x).Y ≤ y ∧ y ≤ (Eq' H x).Y) := no x hx
      have h4 : (Ep H x).Y < y := hx'
      show (Eq' H x).Y < y
      omega)
    obtain ⟨k, hk, e'⟩ := mem_ix hb
    have := this k hk
    simp only [e'] at this
    omega
  · have hall : ∀ p ∈ H, y ≤ p.Y := fun p hp => by
      rcases Int.lt_or_le p.Y y with h | h
      · exact absurd ⟨p, hp, h⟩ hlow
      · exact h
    have hay : a.Y = y := by have := hall a ha; omega
    obtain ⟨i, hi, e⟩ := mem_ix ha
    have := cyc_all (P := fun x => (Ep H x).Y = y) hi (by rw [e]; exact hay) (fun x hx hx' => by
      have h3 : ¬ ((Ep H x).Y < (Eq' H x).Y ∧ (Ep H x).Y ≤ y ∧ y ≤ (Eq' H x).Y) := no x hx
      have h4 : y ≤ (Eq' H x).Y := hall (Eq' H x) (getD_mem' (Nat.mod_lt _ (by omega)))
      have h5 : (Ep H x).Y = y := hx'
      show (Eq' H x).Y = y
      omega)
    refine not_flat hc y (fun p hp => ?_)
    obtain ⟨k, hk, e'⟩ := mem_ix hp
    rw [← e']; exact this k hk
end Saw
end Go.SL

namespace Go.SL
namespace Saw

theorem span_dn {H : List Point} (hc : Cvx H) {y : Int} {a b : Point} (ha : a ∈ H) (hb : b ∈ H) (h1 : a.Y ≤ y) (h2 : y ≤ b.Y) : ∃ j, j < H.length ∧ spD (Ep H j) (Eq' H j) y := by
  refine Classical.byContradiction fun hno => ?_
  have no : ∀ j, j < H.length → ¬ spD (Ep H j) (Eq' H j) y := fun j hj hs => hno ⟨j, hj, hs⟩
  by_cases hhi : ∃ p ∈ H, y < p.Y
  · obtain ⟨p, hp, hpy⟩ := hhi
    obtain ⟨i, hi, e⟩ := mem_ix hp
    have := cyc_all (P := fun x => y < (Ep H x).Y) hi (by rw [e]; exact hpy) (fun x hx hx' => by
      have h3 : ¬ ((Eq' H x).Y < (Ep H x).Y ∧ (Eq' H x).Y ≤ y ∧ y ≤ (Ep H x).Y) := no x hx
      have h4 : y < (Ep H x).Y := hx'
      show y < (Eq' H x).Y
      omega)
    obtain ⟨k, hk, e'⟩ := mem_ix ha
    have := this k hk
    simp only [e'] at this
    omega
  · have hall : ∀ p ∈ H, p.Y ≤ y := fun p hp => by
      rcases Int.lt_or_le y p.Y with h | h
      · exact absurd ⟨p, hp, h⟩ hhi
      · exact h
    have hby : b.Y = y := by have := hall b hb; omega
    obtain ⟨i, hi, e⟩ := mem_ix hb
    have := cyc_all (P := fun x => (Ep H x).Y = y) hi (by rw [e]; exact hby) (fun x hx hx' => by
      have h3 : ¬ ((Eq' H x).Y < (Ep H x).Y ∧ (Eq' H x).Y ≤ y ∧ y ≤ (Ep H x).Y) := no x hx
      have h4 : (Eq' H x).Y ≤ y := hall (Eq' H x) (getD_mem' (Nat.mod_lt _ (by omega)))
      have h5 : (Ep H x).Y = y := hx'
      show (Eq' H x).Y = y
      omega)
    refine not_flat hc y (fun p hp => ?_)
    obtain ⟨k, hk, e'⟩ := mem_ix hp
    rw [← e']; exact this k hk
end Saw
end Go.SL

namespace Go.SL
namespace Saw

theorem no_bad {H : List Point} (hc : Cvx H) {y : Int} {a b : Point} (ha : a ∈ H) (hb : b ∈ H) (h1 : a.Y ≤ y) (h2 : y ≤ b.Y) {j : Nat} (hj : j < H.length) : ¬ bad (Ep H j) (Eq' H j) y := by
  rintro ⟨n1, n2, n3⟩
  have la := hc.lf j hj a ha
  have lb := hc.lf j hj b hb
  generalize Ep H j = p at *
  generalize Eq' H j = q at *
  have hy : q.Y - p.Y = 0 := by omega
  unfold cross at la lb
  rw [hy, Int.mul_zero] at la lb
  rcases Int.lt_trichotomy (q.X - p.X) 0 with h | h | h
  · have : 0 ≤ (q.X - p.X) * (y - b.Y) := by
      have := Int.mul_nonneg (show 0 ≤ -(q.X - p.X) by omega) (show 0 ≤ b.Y - y by omega)
      have e : -(q.X - p.X) * (b.Y - y) = (q.X - p.X) * (y - b.Y) := by grind
      omega
    have e : (q.X - p.X) * (y - p.Y) = (q.X - p.X) * (y - b.Y) + (q.X - p.X) * (b.Y - p.Y) := by grind
    omega
  · rw [h] at n3; simp at n3
  · have : 0 ≤ (q.X - p.X) * (y - a.Y) := Int.mul_nonneg (by omega) (by omega)
    have e : (q.X - p.X) * (y - p.Y) = (q.X - p.X) * (y - a.Y) + (q.X - p.X) * (a.Y - p.Y) := by grind
    omega
end Saw
end Go.SL

namespace Go.SL
namespace Saw

theorem upB_le {p q : Point} {y : Int} (hp : rng p) (hq : rng q) (h : spU p q y) : upB p q y ≤ 600 := by
  refine Classical.byContradiction fun hn => ?_
  have hb := (upB_iff h.1 601 y).1 (by omega)
  unfold cross at hb
  simp only at hb
  have e : (q.X - p.X) * (y - p.Y) - (601 - p.X) * (q.Y - p.Y) = -((601 - q.X) * (y - p.Y)) - (601 - p.X) * (q.Y - y) := by grind
  have a1 := Int.mul_nonneg (show 0 ≤ 601 - q.X by omega) (show 0 ≤ y - p.Y by omega)
  have a2 := Int.mul_nonneg (show 0 ≤ 601 - p.X by omega) (show 0 ≤ q.Y - y by omega)
  rcases Int.lt_or_eq_of_le (show 0 ≤ y - p.Y by omega) with h3 | h3
  · have := Int.mul_pos (show 0 < 601 - q.X by omega) h3
    omega
  · have := Int.mul_pos (show 0 < 601 - p.X by omega) (show 0 < q.Y - y by omega)
    omega
end Saw
end Go.SL

namespace Go.SL
namespace Saw

theorem dnB_ge {p q : Point} {y : Int} (hp : rng p) (hq : rng q) (h : spD p q y) : -600 ≤ dnB p q y := by
  refine Classical.byContradiction fun hn => ?_
  have hb := (dnB_iff h.1 (-601) y).1 (by omega)
  unfold cross at hb
  simp only at hb
  have e : (q.X - p.X) * (y - p.Y) - (-601 - p.X) * (q.Y - p.Y) = -((601 + q.X) * (p.Y - y)) - (601 + p.X) * (y - q.Y) := by grind
  have a1 := Int.mul_nonneg (show 0 ≤ 601 + q.X by omega) (show 0 ≤ p.Y - y by omega)
  have a2 := Int.mul_nonneg (show 0 ≤ 601 + p.X by omega) (show 0 ≤ y - q.Y by omega)
  rcases Int.lt_or_eq_of_le (show 0 ≤ p.Y - y by omega) with h3 | h3
  · have := Int.mul_pos (show 0 < 601 + q.X by omega) h3
    omega
  · have := Int.mul_pos (show 0 < 601 + p.X by omega) (show 0 < y - q.Y by omega)
    omega
end Saw
end Go.SL

namespace Go.SL
namespace Saw

theorem eq_of_le_iff {a b : Int} (h : ∀ X, X ≤ a ↔ X ≤ b) : a = b := by have h1 := (h a).1 (Int.le_refl _); have h2 := (h b).2 (Int.le_refl _); omega
theorem eq_of_ge_iff {a b : Int} (h : ∀ X, a ≤ X ↔ b ≤ X) : a = b := by have h1 := (h a).1 (Int.le_refl _); have h2 := (h b).2 (Int.le_refl _); omega
theorem both_eq {H : List Point} (hc : Cvx H) {y : Int} {a b : Point} (ha : a ∈ H) (hb : b ∈ H) (h1 : a.Y ≤ y) (h2 : y ≤ b.Y) (r : Int × Int) : rS H y 0 H.length (-600, 600) = .inr (pS H y 0 H.length r) := by
  have hn := hc.n3
  have mq : ∀ j, Eq' H j ∈ H := fun j => getD_mem' (Nat.mod_lt _ (by omega))
  have mp : ∀ j, j < H.length → Ep H j ∈ H := fun j hj => getD_mem' hj
  rcases rS_spec H y H.length 0 (-600, 600) with ⟨⟨j, _, j2, j3⟩, _⟩ | ⟨_, r', e, g1, g2⟩
  · exact absurd j3 (no_bad hc ha hb h1 h2 (by omega))
  rw [e]
  congr 1
  refine Prod.ext ?_ ?_
  · rcases pS_dn H y H.length 0 r with ⟨_, h⟩ | ⟨j, _, j2, j3, j4⟩
    · obtain ⟨j, hj, hs⟩ := span_dn hc ha hb h1 h2
      exact absurd hs (h j (by omega) (by omega))
    · have hj : j < H.length := by omega
      rw [j4]
      refine eq_of_ge_iff (fun X => ?_)
      rw [g1 X]
      refine ⟨fun h => h.2 j (by omega) j2 j3.1, fun h => ⟨Int.le_trans (dnB_ge (hc.rg _ (mp j hj)) (hc.rg _ (mq j)) j3) h, fun k k1 k2 k3 => Int.le_trans (dn_dn j3.1 j3.2.1 j3.2.2 k3 (hc.lf k (by omega) _ (mp j hj)) (hc.lf k (by omega) _ (mq j))) h⟩⟩
  · rcases pS_up H y H.length 0 r with ⟨_, h⟩ | ⟨j, _, j2, j3, j4⟩
    · obtain ⟨j, hj, hs⟩ := span_up hc ha hb h1 h2
      exact absurd hs (h j (by omega) (by omega))
    · have hj : j < H.length := by omega
      rw [j4]
      refine eq_of_le_iff (fun X => ?_)
      rw [g2 X]
      refine ⟨fun h => h.2 j (by omega) j2 j3.1, fun h => ⟨Int.le_trans h (upB_le (hc.rg _ (mp j hj)) (hc.rg _ (mq j)) j3), fun k k1 k2 k3 => Int.le_trans h (up_up j3.1 j3.2.1 j3.2.2 k3 (hc.lf k (by omega) _ (mp j hj)) (hc.lf k (by omega) _ (mq j)))⟩⟩
end Saw
end Go.SL

namespace Go.SL
namespace Saw

theorem out_key {u v z : Point} {X y : Int} (h1 : 0 ≤ cross u v ⟨X, y⟩) (h2 : 0 ≤ cross v z ⟨X, y⟩) (h3 : 0 < cross u v z) : ¬ ((v.Y < u.Y ∧ v.Y < z.Y ∧ y < v.Y) ∨ (u.Y < v.Y ∧ z.Y < v.Y ∧ v.Y < y)) := by
  have key : cross u v z * (v.Y - y) = -(cross u v ⟨X, y⟩ * (z.Y - v.Y)) - cross v z ⟨X, y⟩ * (u.Y - v.Y) := by unfold cross; grind
  rintro (⟨a1, a2, a3⟩ | ⟨a1, a2, a3⟩)
  · have b1 := Int.mul_pos h3 (show 0 < v.Y - y by omega)
    have b2 := Int.mul_nonneg h1 (show 0 ≤ z.Y - v.Y by omega)
    have b3 := Int.mul_nonneg h2 (show 0 ≤ u.Y - v.Y by omega)
    omega
  · have b1 := Int.mul_pos h3 (show 0 < y - v.Y by omega)
    have b2 := Int.mul_nonneg h1 (show 0 ≤ v.Y - z.Y by omega)
    have b3 := Int.mul_nonneg h2 (show 0 ≤ v.Y - u.Y by omega)
    have e1 : cross u v z * (y - v.Y) = -(cross u v z * (v.Y - y)) := by grind
    have e2 : cross u v ⟨X, y⟩ * (v.Y - z.Y) = -(cross u v ⟨X, y⟩ * (z.Y - v.Y)) := by grind
    have e3 : cross v z ⟨X, y⟩ * (v.Y - u.Y) = -(cross v z ⟨X, y⟩ * (u.Y - v.Y)) := by grind
    omega
end Saw
end Go.SL

namespace Go.SL
namespace Saw

/-- Somewhere the walk around comes to a value that some corner does not have. -/
theorem cyc_enter {H : List Point} (hc : Cvx H) (c : Int) (hm : ∃ p ∈ H, p.Y = c) : ∃ x, x < H.length ∧ (Ep H x).Y ≠ c ∧ (Eq' H x).Y = c := by
  refine Classical.byContradiction fun hno => ?_
  have no : ∀ x, x < H.length → (Ep H x).Y ≠ c → (Eq' H x).Y ≠ c := fun x hx h1 h2 => hno ⟨x, hx, h1, h2⟩
  have hne : ∃ p ∈ H, p.Y ≠ c := Classical.byContradiction fun h => not_flat hc c (fun p hp => Classical.byContradiction fun h' => h ⟨p, hp, h'⟩)
  obtain ⟨p, hp, hpc⟩ := hne
  obtain ⟨i, hi, e⟩ := mem_ix hp
  have := cyc_all (P := fun x => (Ep H x).Y ≠ c) hi (by rw [e]; exact hpc) (fun x hx h => no x hx h)
  obtain ⟨q, hq, hqc⟩ := hm
  obtain ⟨k, hk, e'⟩ := mem_ix hq
  exact this k hk (by rw [e']; exact hqc)
theorem nxt_ix {H : List Point} (hc : Cvx H) {x : Nat} (hx : x < H.length) : Ep H ((x + 1) % H.length) = Eq' H x ∧ Eq' H ((x + 1) % H.length) = Ep H ((x + 2) % H.length) := by
  refine ⟨rfl, ?_⟩
  show H.getD (((x + 1) % H.length + 1) % H.length) default = H.getD ((x + 2) % H.length) default
  rw [Nat.mod_add_mod]
/-- Below the lowest or above the highest corner: no X is left of all edges, or a horizontal edge refuses. -/
theorem out_none {H : List Point} (hc : Cvx H) {y : Int} (hy : (∀ p ∈ H, y < p.Y) ∨ (∀ p ∈ H, p.Y < y)) (hnb : ∀ j, j < H.length → ¬ bad (Ep H j) (Eq' H j) y) (X : Int) : ¬ ∀ j, j < H.length → 0 ≤ cross (Ep H j) (Eq' H j) ⟨X, y⟩ := by
  intro hall
  have hn := hc.n3
  have mp : ∀ j, j < H.length → Ep H j ∈ H := fun j hj => getD_mem' hj
  -- an extreme corner
  have ext : ∃ c, (∃ p ∈ H, p.Y = c) ∧ ((y < c ∧ ∀ p ∈ H, c ≤ p.Y) ∨ (c < y ∧ ∀ p ∈ H, p.Y ≤ c)) := by
    have gen : ∀ l : List Point, l ≠ [] → (∃ p ∈ l, ∀ q ∈ l, p.Y ≤ q.Y) ∧ (∃ p ∈ l, ∀ q ∈ l, q.Y ≤ p.Y) := by
      intro l
      induction l with
      | nil => intro h; exact absurd rfl h
      | cons a l ih =>
        intro _
        by_cases hl : l = []
        · subst hl; exact ⟨⟨a, by simp, by simp⟩, ⟨a, by simp, by simp⟩⟩
        · obtain ⟨⟨p, hp, h1⟩, q, hq, h2⟩ := ih hl
          constructor
          · by_cases h : a.Y ≤ p.Y
            · exact ⟨a, by simp, fun r hr => by rcases List.mem_cons.1 hr with rfl | hr; · exact Int.le_refl _
                                                · exact Int.le_trans h (h1 r hr)⟩
            · exact ⟨p, List.mem_cons_of_mem _ hp, fun r hr => by rcases List.mem_cons.1 hr with rfl | hr; · omega
                                                                  · exact h1 r hr⟩
          · by_cases h : q.Y ≤ a.Y
            · exact ⟨a, by simp, fun r hr => by rcases List.mem_cons.1 hr with rfl | hr; · exact Int.le_refl _
                                                · exact Int.le_trans (h2 r hr) h⟩
            · exact ⟨q, List.mem_cons_of_mem _ hq, fun r hr => by rcases List.mem_cons.1 hr with rfl | hr; · omega
                                                                  · exact h2 r hr⟩
    obtain ⟨⟨p, hp, h1⟩, q, hq, h2⟩ := gen H (fun e => by rw [e] at hn; simp at hn)
    rcases hy with hy | hy
    · exact ⟨p.Y, ⟨p, hp, rfl⟩, .inl ⟨hy p hp, h1⟩⟩
    · exact ⟨q.Y, ⟨q, hq, rfl⟩, .inr ⟨hy q hq, h2⟩⟩
  obtain ⟨c, hcm, hce⟩ := ext
  obtain ⟨x, hx, x1, x2⟩ := cyc_enter hc c hcm
  have hx' : (x + 1) % H.length < H.length := Nat.mod_lt _ (by omega)
  have hx2 : (x + 2) % H.length < H.length := Nat.mod_lt _ (by omega)
  obtain ⟨i1, i2⟩ := nxt_ix hc hx
  have c1 := hall x hx
  have c2 := hall _ hx'
  have nb := hnb _ hx'
  have t := hc.tn x hx
  have mu := mp x hx
  have mz := mp _ hx2
  rw [i1, i2] at c2 nb
  generalize Ep H x = u at *
  generalize Eq' H x = v at *
  generalize Ep H ((x + 2) % H.length) = z at *
  have key := out_key c1 c2 t
  rcases hce with ⟨y1, y2⟩ | ⟨y1, y2⟩
  · have yu := y2 u mu
    have yz := y2 z mz
    by_cases hz : z.Y = v.Y
    · refine nb ⟨by omega, by omega, ?_⟩
      have e : cross u v z = (u.Y - v.Y) * (z.X - v.X) := by unfold cross; rw [hz]; grind
      rw [e] at t
      have hp : 0 < z.X - v.X := by
        refine Classical.byContradiction fun h => ?_
        have := Int.mul_nonneg (show 0 ≤ u.Y - v.Y by omega) (show 0 ≤ -(z.X - v.X) by omega)
        rw [Int.mul_neg] at this
        omega
      have := Int.mul_pos hp (show 0 < v.Y - y by omega)
      have e2 : (z.X - v.X) * (y - v.Y) = -((z.X - v.X) * (v.Y - y)) := by grind
      omega
    · exact key (.inl ⟨by omega, by omega, by omega⟩)
  · have yu := y2 u mu
    have yz := y2 z mz
    by_cases hz : z.Y = v.Y
    · refine nb ⟨by omega, by omega, ?_⟩
      have e : cross u v z = (v.Y - u.Y) * (v.X - z.X) := by unfold cross; rw [hz]; grind
      rw [e] at t
      have hp : 0 < v.X - z.X := by
        refine Classical.byContradiction fun h => ?_
        have := Int.mul_nonneg (show 0 ≤ v.Y - u.Y by omega) (show 0 ≤ -(v.X - z.X) by omega)
        rw [Int.mul_neg] at this
        omega
      have := Int.mul_pos hp (show 0 < y - v.Y by omega)
      have e2 : (z.X - v.X) * (y - v.Y) = -((v.X - z.X) * (y - v.Y)) := by grind
      omega
    · exact key (.inr ⟨by omega, by omega, by omega⟩)
end Saw
end Go.SL

namespace Go.SL
namespace Saw

theorem hull_of {a : List Point} (h : hull a ≠ []) : a.length ≤ 32 ∧ a.all inRange = true ∧ hull a = hullOf (srt a) ∧ ¬ (chainR (srt a)).length + (chainR (srt a).reverse).length < 5 := by
  unfold hull at h ⊢
  by_cases h1 : ((a.length : Nat) : Int) > 32
  · rw [decide_eq_true h1] at h; exact absurd rfl h
  · rw [decide_eq_false h1] at h ⊢
    cases hr : a.all inRange with
    | false => rw [hr] at h; exact absurd rfl h
    | true =>
      rw [hr] at h
      simp only [cond_false, cond_true] at h ⊢
      refine ⟨by omega, trivial, trivial, fun h5 => h ?_⟩
      unfold hullOf
      rw [if_pos h5]
theorem hull_mem {a : List Point} {p : Point} (hp : p ∈ hull a) : p ∈ a := by
  have h : hull a ≠ [] := fun e => by rw [e] at hp; cases hp
  obtain ⟨_, _, e, h5⟩ := hull_of h
  rw [e] at hp
  exact (srt_mem a p).1 ((hull_left (srt_strict a) h5).2.1 p hp)
theorem hull_lf {a : List Point} {x : Nat} (hx : x < (hull a).length) {p : Point} (hp : p ∈ a) : 0 ≤ cross (Ep (hull a) x) (Eq' (hull a) x) p := by
  have h : hull a ≠ [] := fun e => by rw [e] at hx; simp at hx
  obtain ⟨_, _, e, h5⟩ := hull_of h
  rw [e] at hx ⊢
  exact (hull_left (srt_strict a) h5).2.2 x hx p ((srt_mem a p).2 hp)
theorem hull_rng {a : List Point} {p : Point} (hp : p ∈ hull a) : rng p := by
  have h : hull a ≠ [] := fun e => by rw [e] at hp; cases hp
  obtain ⟨_, hr, _, _⟩ := hull_of h
  exact inRange_iff.1 (List.all_eq_true.1 hr p (hull_mem hp))
theorem hull_cvx {a : List Point} (h : hull a ≠ []) : Cvx (hull a) := by
  obtain ⟨_, _, e, h5⟩ := hull_of h
  refine ⟨by rw [e]; exact (hull_left (srt_strict a) h5).1, fun p hp => hull_rng hp, fun x hx p hp => hull_lf hx (hull_mem hp), fun x hx => ?_⟩
  rw [e] at hx ⊢
  exact hull_turns (srt_strict a) h5 x hx

/-- The region of a convex polygon: left of every edge. -/
def inH (H : List Point) (X y : Int) : Prop := ∀ j, j < H.length → 0 ≤ cross (Ep H j) (Eq' H j) ⟨X, y⟩

/-- The least and the greatest height of the corners. -/
structure YB (H : List Point) (l h : Int) : Prop where
  lo : ∃ p ∈ H, p.Y = l
  hi : ∃ p ∈ H, p.Y = h
  all : ∀ p ∈ H, l ≤ p.Y ∧ p.Y ≤ h
theorem bounds_fold : ∀ (l : List Point) (r : Rect), ((l.foldl bstep r).Y.A = r.Y.A ∨ ∃ p ∈ l, p.Y = (l.foldl bstep r).Y.A) ∧ ((l.foldl bstep r).Y.B = r.Y.B ∨ ∃ p ∈ l, p.Y = (l.foldl bstep r).Y.B) ∧ (l.foldl bstep r).Y.A ≤ r.Y.A ∧ r.Y.B ≤ (l.foldl bstep r).Y.B ∧ ∀ p ∈ l, (l.foldl bstep r).Y.A ≤ p.Y ∧ p.Y ≤ (l.foldl bstep r).Y.B
  | [], r => ⟨.inl rfl, .inl rfl, Int.le_refl _, Int.le_refl _, fun p hp => by cases hp⟩
  | a :: l, r => by
    obtain ⟨h1, h2, h3, h4, h5⟩ := bounds_fold l (bstep r a)
    have eA : (bstep r a).Y.A = imin r.Y.A a.Y := rfl
    have eB : (bstep r a).Y.B = imax r.Y.B a.Y := rfl
    have mA : imin r.Y.A a.Y ≤ r.Y.A ∧ imin r.Y.A a.Y ≤ a.Y ∧ (imin r.Y.A a.Y = r.Y.A ∨ imin r.Y.A a.Y = a.Y) := by unfold imin; split <;> omega
    have mB : r.Y.B ≤ imax r.Y.B a.Y ∧ a.Y ≤ imax r.Y.B a.Y ∧ (imax r.Y.B a.Y = r.Y.B ∨ imax r.Y.B a.Y = a.Y) := by unfold imax; split <;> omega
    rw [eA] at h1 h3
    rw [eB] at h2 h4
    simp only [List.foldl_cons]
    refine ⟨?_, ?_, by omega, by omega, fun p hp => ?_⟩
    · rcases h1 with h1 | ⟨p, hp, e⟩
      · rcases mA.2.2 with e | e
        · exact .inl (h1.trans e)
        · exact .inr ⟨a, by simp, by omega⟩
      · exact .inr ⟨p, List.mem_cons_of_mem _ hp, e⟩
    · rcases h2 with h2 | ⟨p, hp, e⟩
      · rcases mB.2.2 with e | e
        · exact .inl (h2.trans e)
        · exact .inr ⟨a, by simp, by omega⟩
      · exact .inr ⟨p, List.mem_cons_of_mem _ hp, e⟩
    · rcases List.mem_cons.1 hp with rfl | hp
      · omega
      · exact h5 p hp
theorem bounds_YB {H : List Point} (h : H ≠ []) : YB H (bounds H).Y.A (bounds H).Y.B := by
  cases H with
  | nil => exact absurd rfl h
  | cons a l =>
    obtain ⟨h1, h2, h3, h4, h5⟩ := bounds_fold l (Rect.mk (Span.mk a.X a.X) (Span.mk a.Y a.Y))
    unfold bounds
    simp only at h3 h4 ⊢
    refine ⟨?_, ?_, fun p hp => ?_⟩
    · rcases h1 with h1 | ⟨p, hp, e⟩
      · exact ⟨a, by simp, h1.symm⟩
      · exact ⟨p, List.mem_cons_of_mem _ hp, e⟩
    · rcases h2 with h2 | ⟨p, hp, e⟩
      · exact ⟨a, by simp, h2.symm⟩
      · exact ⟨p, List.mem_cons_of_mem _ hp, e⟩
    · rcases List.mem_cons.1 hp with rfl | hp
      · exact ⟨h3, h4⟩
      · exact h5 p hp
end Saw
end Go.SL
