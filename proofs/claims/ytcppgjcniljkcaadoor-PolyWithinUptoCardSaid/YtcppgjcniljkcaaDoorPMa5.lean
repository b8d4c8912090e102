/- Poly's plain mathematics, part 34: Has on a convex polygon. -/
import Derived.Test.YtcppgjcniljkcaaDoorPMa4
set_option linter.unusedVariables false
set_option linter.unusedSimpArgs false
namespace Go.SL
namespace Saw

theorem onE_iff {p q c : Point} : onE p q c = true ↔ cross p q c = 0 ∧ imin p.X q.X ≤ c.X ∧ c.X ≤ imax p.X q.X ∧ imin p.Y q.Y ≤ c.Y ∧ c.Y ≤ imax p.Y q.Y := by
  unfold onE; simp
theorem imin_c (a b : Int) : (imin a b = a ∧ a ≤ b) ∨ (imin a b = b ∧ b ≤ a) := by unfold imin; split <;> omega
theorem imax_c (a b : Int) : (imax a b = a ∧ b ≤ a) ∨ (imax a b = b ∧ a ≤ b) := by unfold imax; split <;> omega
theorem lin_idx (al be c0 : Int) (p q : Point) (X y : Int) : (q.X - p.X) * lin al be c0 ⟨X, y⟩ = (q.X - X) * lin al be c0 p + (X - p.X) * lin al be c0 q + be * cross p q ⟨X, y⟩ := by unfold lin cross; grind
theorem mul_nn {d v : Int} (hd : 0 < d) (h : 0 ≤ d * v) : 0 ≤ v := by
  refine Classical.byContradiction fun hn => ?_
  have := Int.mul_pos hd (show 0 < -v by omega)
  rw [Int.mul_neg] at this
  omega
theorem seg_lin {al be c0 : Int} {p q c : Point} (ho : onE p q c = true) (hp : 0 ≤ lin al be c0 p) (hq : 0 ≤ lin al be c0 q) : 0 ≤ lin al be c0 c := by
  obtain ⟨h0, h1, h2, h3, h4⟩ := onE_iff.1 ho
  have m1 := imin_c p.X q.X
  have m2 := imax_c p.X q.X
  have m3 := imin_c p.Y q.Y
  have m4 := imax_c p.Y q.Y
  obtain ⟨X, y⟩ := c
  simp only at h1 h2 h3 h4
  have iy := lin_id al be c0 p q X y
  have ix := lin_idx al be c0 p q X y
  rw [h0, Int.mul_zero] at iy ix
  rcases Int.lt_trichotomy p.Y q.Y with c | c | c
  · have a1 := Int.mul_nonneg (show 0 ≤ q.Y - y by omega) hp
    have a2 := Int.mul_nonneg (show 0 ≤ y - p.Y by omega) hq
    exact mul_nn (show 0 < q.Y - p.Y by omega) (by omega)
  · rcases Int.lt_trichotomy p.X q.X with d | d | d
    · have a1 := Int.mul_nonneg (show 0 ≤ q.X - X by omega) hp
      have a2 := Int.mul_nonneg (show 0 ≤ X - p.X by omega) hq
      exact mul_nn (show 0 < q.X - p.X by omega) (by omega)
    · have ex : X = p.X := by omega
      have ey : y = p.Y := by omega
      rw [ex, ey]; exact hp
    · have a1 := Int.mul_nonneg (show 0 ≤ -(q.X - X) by omega) hp
      have a2 := Int.mul_nonneg (show 0 ≤ -(X - p.X) by omega) hq
      rw [Int.neg_mul] at a1 a2
      refine mul_nn (show 0 < -(q.X - p.X) by omega) ?_
      rw [Int.neg_mul]; omega
  · have a1 := Int.mul_nonneg (show 0 ≤ -(q.Y - y) by omega) hp
    have a2 := Int.mul_nonneg (show 0 ≤ -(y - p.Y) by omega) hq
    rw [Int.neg_mul] at a1 a2
    refine mul_nn (show 0 < -(q.Y - p.Y) by omega) ?_
    rw [Int.neg_mul]; omega
theorem onE_in {H : List Point} (hc : Cvx H) {j : Nat} (hj : j < H.length) {c : Point} (ho : onE (Ep H j) (Eq' H j) c = true) : inH H c.X c.Y := by
  have hn := hc.n3
  intro i hi
  have e : (⟨c.X, c.Y⟩ : Point) = c := rfl
  rw [e, cross_lin]
  refine seg_lin ho ?_ ?_
  · rw [← cross_lin]; exact hc.lf i hi _ (getD_mem' hj)
  · rw [← cross_lin]; exact hc.lf i hi _ (getD_mem' (Nat.mod_lt _ (by omega)))
/-- On the line of an edge, between its heights. -/
theorem on_up {p q c : Point} (hpq : p.Y < q.Y) (h1 : p.Y ≤ c.Y) (h2 : c.Y ≤ q.Y) (h0 : cross p q c = 0) : onE p q c = true ∧ onE q p c = true := by
  have e : (q.Y - p.Y) * (c.X - p.X) = (q.X - p.X) * (c.Y - p.Y) := by unfold cross at h0; grind
  have e' : (q.Y - p.Y) * (q.X - c.X) = (q.X - p.X) * (q.Y - c.Y) := by unfold cross at h0; grind
  have d : 0 < q.Y - p.Y := by omega
  have m1 := imin_c p.X q.X
  have m2 := imax_c p.X q.X
  have m3 := imin_c p.Y q.Y
  have m4 := imax_c p.Y q.Y
  have n1 := imin_c q.X p.X
  have n2 := imax_c q.X p.X
  have n3 := imin_c q.Y p.Y
  have n4 := imax_c q.Y p.Y
  have h0' : cross q p c = 0 := by rw [cross_neg, h0]; rfl
  rw [onE_iff, onE_iff]
  rcases Int.le_total p.X q.X with c1 | c1
  · have a1 := mul_nn d (v := c.X - p.X) (by rw [e]; exact Int.mul_nonneg (by omega) (by omega))
    have a2 := mul_nn d (v := q.X - c.X) (by rw [e']; exact Int.mul_nonneg (by omega) (by omega))
    exact ⟨⟨h0, by omega, by omega, by omega, by omega⟩, h0', by omega, by omega, by omega, by omega⟩
  · have a1 := mul_nn d (v := -(c.X - p.X)) (by rw [Int.mul_neg, e, ← Int.neg_mul]; exact Int.mul_nonneg (by omega) (by omega))
    have a2 := mul_nn d (v := -(q.X - c.X)) (by rw [Int.mul_neg, e', ← Int.neg_mul]; exact Int.mul_nonneg (by omega) (by omega))
    exact ⟨⟨h0, by omega, by omega, by omega, by omega⟩, h0', by omega, by omega, by omega, by omega⟩
theorem onE_end (p q : Point) : onE p q q = true ∧ onE p q p = true := by
  have m1 := imin_c p.X q.X
  have m2 := imax_c p.X q.X
  have m3 := imin_c p.Y q.Y
  have m4 := imax_c p.Y q.Y
  rw [onE_iff, onE_iff]
  exact ⟨⟨cross_self_r _ _, by omega, by omega, by omega, by omega⟩, cross_self_l _ _, by omega, by omega, by omega, by omega⟩
/-- At the top. -/
theorem top_on {H : List Point} (hc : Cvx H) {X y : Int} (h : inH H X y) (htop : ∀ p ∈ H, p.Y ≤ y) {lo hi : Point} (hlo : lo ∈ H) (hhi : hi ∈ H) (h1 : lo.Y ≤ y) (h2 : y ≤ hi.Y) : ∃ j, j < H.length ∧ onE (Ep H j) (Eq' H j) ⟨X, y⟩ = true := by
  have hn := hc.n3
  obtain ⟨j, hj, sj⟩ := span_up hc hlo hhi h1 h2
  have hj1 : (j + 1) % H.length < H.length := Nat.mod_lt _ (by omega)
  have hj2 : ((j + 1) % H.length + 1) % H.length < H.length := Nat.mod_lt _ (by omega)
  obtain ⟨s1, s2, s3⟩ := sj
  have i1 := nxt_ix hc hj
  have cj := h j hj
  have cj1 := h _ hj1
  have cj2 := h _ hj2
  have tj := hc.tn j hj
  have tj1 := hc.tn _ hj1
  have zq : (Eq' H j).Y ≤ y := htop _ (getD_mem' hj1)
  have zr : (Ep H (((j + 1) % H.length + 1) % H.length)).Y ≤ y := htop _ (getD_mem' hj2)
  have zs : (Eq' H (((j + 1) % H.length + 1) % H.length)).Y ≤ y := htop _ (getD_mem' (Nat.mod_lt _ (by omega)))
  have er : Ep H (((j + 1) % H.length + 1) % H.length) = Ep H ((j + 2) % H.length) := i1.2
  have es : Eq' H ((j + 1) % H.length) = Ep H (((j + 1) % H.length + 1) % H.length) := rfl
  rw [i1.1, es] at cj1
  rw [i1.1, es] at tj1
  have e3 : Ep H (((j + 1) % H.length + 2) % H.length) = Eq' H (((j + 1) % H.length + 1) % H.length) := by
    show H.getD (((j + 1) % H.length + 2) % H.length) default = H.getD ((((j + 1) % H.length + 1) % H.length + 1) % H.length) default
    rw [Nat.mod_add_mod ((j + 1) % H.length + 1)]
  rw [e3] at tj1
  rw [← er] at tj
  -- the edge j+1
  by_cases hz : (Ep H (((j + 1) % H.length + 1) % H.length)).Y = y
  · -- a horizontal edge at the top
    refine ⟨(j + 1) % H.length, hj1, ?_⟩
    rw [i1.1, es, onE_iff]
    generalize Ep H j = p at *
    generalize Eq' H j = q at *
    generalize Ep H (((j + 1) % H.length + 1) % H.length) = r at *
    generalize Eq' H (((j + 1) % H.length + 1) % H.length) = t at *
    have hq : q.Y = y := by omega
    have x1 : X ≤ q.X := by
      have : cross p q ⟨X, y⟩ = (q.Y - p.Y) * (q.X - X) := by unfold cross; simp only; rw [← hq]; grind
      rw [this] at cj
      have := mul_nn (show 0 < q.Y - p.Y by omega) cj
      omega
    have rq : r.X < q.X := by
      have : cross p q r = (q.Y - p.Y) * (q.X - r.X) := by unfold cross; rw [hz, ← hq]; grind
      rw [this] at tj
      refine Classical.byContradiction fun hn' => ?_
      have := Int.mul_nonneg (show 0 ≤ q.Y - p.Y by omega) (show 0 ≤ -(q.X - r.X) by omega)
      rw [Int.mul_neg] at this
      omega
    have tY : t.Y < y := by
      have : cross q r t = (q.X - r.X) * (y - t.Y) := by unfold cross; rw [hz, hq]; grind
      rw [this] at tj1
      refine Classical.byContradiction fun hn' => ?_
      have := Int.mul_nonneg (show 0 ≤ q.X - r.X by omega) (show 0 ≤ -(y - t.Y) by omega)
      rw [Int.mul_neg] at this
      omega
    have x2 : r.X ≤ X := by
      have : cross r t ⟨X, y⟩ = (y - t.Y) * (X - r.X) := by unfold cross; simp only; rw [hz]; grind
      rw [this] at cj2
      have := mul_nn (show 0 < y - t.Y by omega) cj2
      omega
    have m1 := imin_c q.X r.X
    have m2 := imax_c q.X r.X
    have m3 := imin_c q.Y r.Y
    have m4 := imax_c q.Y r.Y
    refine ⟨?_, by simp only; omega, by simp only; omega, by simp only; omega, by simp only; omega⟩
    unfold cross
    rw [hz, hq]
    simp
  · -- the top is one corner
    refine ⟨j, hj, ?_⟩
    generalize Ep H j = p at *
    generalize Eq' H j = q at *
    generalize Ep H (((j + 1) % H.length + 1) % H.length) = r at *
    have hq : q.Y = y := by omega
    have x1 : X ≤ q.X := by
      have : cross p q ⟨X, y⟩ = (q.Y - p.Y) * (q.X - X) := by unfold cross; simp only; rw [← hq]; grind
      rw [this] at cj
      have := mul_nn (show 0 < q.Y - p.Y by omega) cj
      omega
    have x2 : q.X ≤ X := by
      have : cross q r ⟨X, y⟩ = (q.Y - r.Y) * (X - q.X) := by unfold cross; simp only; rw [← hq]; grind
      rw [this] at cj1
      have := mul_nn (show 0 < q.Y - r.Y by omega) cj1
      omega
    have e : (⟨X, y⟩ : Point) = q := by
      cases q
      simp only [Point.mk.injEq]
      simp only at hq x1 x2
      omega
    rw [e]
    exact (onE_end p q).1
/-- Left of the edge that goes down: right of nothing. -/
theorem dn_up {p q p' q' : Point} {X y : Int} (hu : p.Y < q.Y) (hd : spD p' q' y) (h1 : 0 ≤ cross p q p') (h2 : 0 ≤ cross p q q') (h3 : cross p' q' ⟨X, y⟩ < 0) : 0 < cross p q ⟨X, y⟩ := by
  obtain ⟨d1, d2, d3⟩ := hd
  have e := lin_id (-(q.Y - p.Y)) (q.X - p.X) (p.X * (q.Y - p.Y) - (q.X - p.X) * p.Y) p' q' X y
  rw [← cross_lin, ← cross_lin, ← cross_lin] at e
  have a1 := Int.mul_nonneg (show 0 ≤ -(q'.Y - y) by omega) h1
  have a2 := Int.mul_nonneg (show 0 ≤ -(y - p'.Y) by omega) h2
  have a3 := Int.mul_pos (show 0 < q.Y - p.Y by omega) (show 0 < -cross p' q' ⟨X, y⟩ by omega)
  rw [Int.neg_mul] at a1 a2
  rw [Int.mul_neg] at a3
  rw [Int.neg_mul] at e
  refine Classical.byContradiction fun hn => ?_
  have a4 := Int.mul_nonneg (show 0 ≤ -(q'.Y - p'.Y) by omega) (show 0 ≤ -cross p q ⟨X, y⟩ by omega)
  rw [Int.neg_mul_neg] at a4
  omega
theorem cro_iff {p q c : Point} : cro p q c = true ↔ (p.Y ≤ c.Y ∧ c.Y < q.Y ∧ 0 < cross p q c) ∨ (q.Y ≤ c.Y ∧ c.Y < p.Y ∧ cross p q c < 0) := by unfold cro; simp
theorem has_cvx {H : List Point} (hc : Cvx H) (hd : H.Nodup) (hl : H.length ≤ 32) {c : Point} (hr : inRange c = true) : has H c = true ↔ inH H c.X c.Y := by
  obtain ⟨v1, v2⟩ := has_val (cvx_chk hc hl) hr
  have hn := hc.n3
  have hne : H ≠ [] := fun e => by rw [e] at hn; simp at hn
  have hb := bounds_YB hne
  obtain ⟨plo, mlo, elo⟩ := hb.lo
  obtain ⟨phi, mhi, ehi⟩ := hb.hi
  have pm : ∀ i, i < H.length → Ep H i ∈ H := fun i hi => getD_mem' hi
  have qm : ∀ i, Eq' H i ∈ H := fun i => getD_mem' (Nat.mod_lt _ (by omega))
  have ec : (⟨c.X, c.Y⟩ : Point) = c := rfl
  by_cases hon : ∃ j, j < H.length ∧ onE (Ep H j) (Eq' H j) c = true
  · obtain ⟨j, hj, ho⟩ := hon
    exact ⟨fun _ => onE_in hc hj ho, fun _ => v1 ⟨j, hj, ho⟩⟩
  have hno : ∀ j, j < H.length → onE (Ep H j) (Eq' H j) c = false := fun j hj => by
    cases ho : onE (Ep H j) (Eq' H j) c with
    | false => rfl
    | true => exact absurd ⟨j, hj, ho⟩ hon
  rw [v2 hno]
  by_cases hy : (bounds H).Y.A ≤ c.Y ∧ c.Y < (bounds H).Y.B
  · obtain ⟨⟨u, hu, u1, u2⟩, d, hd', d1, d2⟩ := half_ex mlo mhi (show plo.Y ≤ c.Y by omega) (show c.Y < phi.Y by omega)
    have hud : u ≠ d := fun e => by subst e; omega
    have oth : ∀ j, 0 ≤ j → j < 0 + H.length → j ≠ u → j ≠ d → cro (Ep H j) (Eq' H j) c = false := fun j _ hj nu nd => by
      cases hcr : cro (Ep H j) (Eq' H j) c with
      | false => rfl
      | true =>
        rcases cro_iff.1 hcr with ⟨c1, c2, _⟩ | ⟨c1, c2, _⟩
        · exact absurd (up_one hc hd (by omega) hu (t := c.Y) c1 (by omega) u1 (by omega)) nu
        · exact absurd (dn_one hc hd (by omega) hd' (t := c.Y) c1 (by omega) d1 (by omega)) nd
    rw [parC_two hud H.length 0 (by omega) (by omega) (by omega) (by omega) oth]
    have su : spU (Ep H u) (Eq' H u) c.Y := ⟨by omega, by omega, by omega⟩
    have sd : spD (Ep H d) (Eq' H d) c.Y := ⟨by omega, by omega, by omega⟩
    have key : inH H c.X c.Y ↔ 0 ≤ cross (Ep H u) (Eq' H u) c ∧ 0 ≤ cross (Ep H d) (Eq' H d) c := by
      refine ⟨fun h => ⟨h u hu, h d hd'⟩, fun ⟨h1, h2⟩ i hi => ?_⟩
      rw [cross_lin]
      refine lin_two su sd ?_ ?_ ?_ ?_ h1 h2
      · rw [← cross_lin]; exact hc.lf i hi _ (pm u hu)
      · rw [← cross_lin]; exact hc.lf i hi _ (qm u)
      · rw [← cross_lin]; exact hc.lf i hi _ (pm d hd')
      · rw [← cross_lin]; exact hc.lf i hi _ (qm d)
    have cu : cro (Ep H u) (Eq' H u) c = decide (0 < cross (Ep H u) (Eq' H u) c) := by
      rw [Bool.eq_iff_iff, cro_iff, decide_eq_true_eq]; omega
    have cd : cro (Ep H d) (Eq' H d) c = decide (cross (Ep H d) (Eq' H d) c < 0) := by
      rw [Bool.eq_iff_iff, cro_iff, decide_eq_true_eq]; omega
    have nzu : cross (Ep H u) (Eq' H u) c ≠ 0 := fun e => by
      have := (on_up su.1 su.2.1 su.2.2 e).1
      rw [hno u hu] at this; cases this
    rw [key, cu, cd]
    by_cases hdn : cross (Ep H d) (Eq' H d) c < 0
    · have := dn_up (X := c.X) su.1 sd (hc.lf u hu _ (pm d hd')) (hc.lf u hu _ (qm d)) hdn
      rw [ec] at this
      rw [decide_eq_true hdn, decide_eq_true this]
      refine ⟨fun h => absurd h (by decide), fun h => by omega⟩
    · rw [decide_eq_false hdn]
      by_cases hup : 0 < cross (Ep H u) (Eq' H u) c
      · rw [decide_eq_true hup]; exact ⟨fun _ => ⟨by omega, by omega⟩, fun _ => rfl⟩
      · rw [decide_eq_false hup]; exact ⟨fun h => absurd h (by decide), fun h => by omega⟩
  · have par0 : parC H c 0 H.length = false := parC_zero H.length 0 (fun j _ hj => by
      cases hcr : cro (Ep H j) (Eq' H j) c with
      | false => rfl
      | true =>
        have a1 := hb.all _ (pm j (by omega))
        have a2 := hb.all _ (qm j)
        rcases cro_iff.1 hcr with ⟨c1, c2, _⟩ | ⟨c1, c2, _⟩ <;> omega)
    rw [par0]
    refine ⟨fun h => absurd h (by decide), fun h => ?_⟩
    have yb := in_YB hc hb h
    obtain ⟨j, hj, ho⟩ := top_on hc h (fun p hp => by have := (hb.all p hp).2; omega) mlo mhi (by omega) (by omega)
    rw [hno j hj] at ho
    cases ho
end Saw
end Go.SL

namespace Go.SL
namespace Saw

theorem hull_has {a : List Point} (h : hull a ≠ []) {X y : Int} (hr : inRange ⟨X, y⟩ = true) : has (hull a) ⟨X, y⟩ = true ↔ inH (hull a) X y :=
  has_cvx (hull_cvx h) (hull_nodup a) (by have := hull_le a; have := (hull_of h).1; omega) hr
theorem hull_has' {a : List Point} (h : hull a ≠ []) (X y : Int) : has (hull a) ⟨X, y⟩ = true ↔ inH (hull a) X y := by
  cases hr : inRange ⟨X, y⟩ with
  | true => exact hull_has h hr
  | false =>
    have e : has (hull a) ⟨X, y⟩ = false := by unfold has; rw [hr]; simp
    rw [e]
    refine ⟨fun h => absurd h (by decide), fun hin => ?_⟩
    have hc := hull_cvx h
    have a1 := lin_nonneg hc hin (al := 1) (be := 0) (c := 600) (fun p hp => by have := hc.rg p hp; unfold lin; omega)
    have a2 := lin_nonneg hc hin (al := -1) (be := 0) (c := 600) (fun p hp => by have := hc.rg p hp; unfold lin; omega)
    have a3 := lin_nonneg hc hin (al := 0) (be := 1) (c := 600) (fun p hp => by have := hc.rg p hp; unfold lin; omega)
    have a4 := lin_nonneg hc hin (al := 0) (be := -1) (c := 600) (fun p hp => by have := hc.rg p hp; unfold lin; omega)
    unfold lin at a1 a2 a3 a4
    simp only at a1 a2 a3 a4
    have : inRange ⟨X, y⟩ = true := inRange_iff.2 (by simp only; omega)
    rw [this] at hr; cases hr
theorem inside_eq (H : List Point) (a b lo hi : Int) : law09_inside H a b lo hi = some (has H ⟨a, lo⟩ && (has H ⟨a, hi⟩ && (has H ⟨b, lo⟩ && has H ⟨b, hi⟩))) := by
  unfold law09_inside law09_pt law09_inside_k1
  simp only [Option.bind_some, (has_eq _ _).1]
  cases has H ⟨a, lo⟩ <;> cases has H ⟨a, hi⟩ <;> cases has H ⟨b, lo⟩ <;> rfl
theorem inside_in {p : List Point} (h : hull p ≠ []) (a b lo hi : Int) : (has (hull p) ⟨a, lo⟩ && (has (hull p) ⟨a, hi⟩ && (has (hull p) ⟨b, lo⟩ && has (hull p) ⟨b, hi⟩))) = true ↔ (inH (hull p) a lo ∧ inH (hull p) a hi ∧ inH (hull p) b lo ∧ inH (hull p) b hi) := by
  rw [Bool.and_eq_true, Bool.and_eq_true, Bool.and_eq_true, hull_has' h, hull_has' h, hull_has' h, hull_has' h]
theorem span_zero (s : Span) : ((s.A == 0) && ((s.B == 0) && true)) = true ↔ s = ⟨0, 0⟩ := by cases s; simp
theorem PolyChord_true (p : List Point) (y : List Int) (x : Int) {w w' : Prop} (_ : w) (_ : w') (hx : i64ok x) : law09_PolyChord p y x = some true := by
  have k1t : law09_PolyChord_k1 p y x true = some true := by unfold law09_PolyChord_k1; simp [awake_true]
  have main : law09_PolyChord_k1 p y x false = some true ∨ ¬ (-1000 ≤ x ∧ x ≤ 1000) := by
    by_cases hxr : -1000 ≤ x ∧ x ≤ 1000
    · refine .inl ?_
      unfold law09_PolyChord_k1
      simp only [cond_false, polyHull_eq, polyChord_eq, Option.bind_some, inside_eq]
      generalize y.getD 0 default = lo
      generalize y.getD 1 default = hi
      rcases chord_spec p lo hi with ⟨e, hno⟩ | ⟨h0, h1, h2, h3⟩
      · rw [(span_zero _).2 e]
        simp only [cond_true]
        by_cases h0 : hull p = []
        · rw [h0]; simp [awake_true, law09_PolyChord_k2]
        · have e0 : ((((hull p).length : Nat) : Int) == 0) = false := by
            have : 0 < (hull p).length := List.length_pos_iff.2 h0
            rw [beq_eq_false_iff_ne]; omega
          rw [e0]
          simp only [cond_false]
          by_cases h1 : lo ≥ hi
          · rw [decide_eq_true h1]; simp [awake_true, law09_PolyChord_k2]
          · rw [decide_eq_false h1, w64_id (by omega) (by omega)]
            have hn := hno x h0 (by omega)
            have : (has (hull p) ⟨x, lo⟩ && (has (hull p) ⟨x, hi⟩ && (has (hull p) ⟨x + 1, lo⟩ && has (hull p) ⟨x + 1, hi⟩))) = false := by
              cases hb : (has (hull p) ⟨x, lo⟩ && (has (hull p) ⟨x, hi⟩ && (has (hull p) ⟨x + 1, lo⟩ && has (hull p) ⟨x + 1, hi⟩))) with
              | false => rfl
              | true => exact absurd ((inside_in h0 _ _ _ _).1 hb) hn
            rw [this]
            simp [awake_true, law09_PolyChord_k2]
      · have hz : (((chord p lo hi).A == 0) && (((chord p lo hi).B == 0) && true)) = false := by
          cases hb : (((chord p lo hi).A == 0) && (((chord p lo hi).B == 0) && true)) with
          | false => rfl
          | true => rw [(span_zero _).1 hb] at h2; exact absurd h2 (by decide)
        rw [hz, decide_eq_true h2, decide_eq_true h1]
        have kA := (h3 _).1 ⟨Int.le_refl _, Int.le_of_lt h2⟩
        have kB := (h3 _).1 ⟨Int.le_of_lt h2, Int.le_refl _⟩
        have hc := hull_cvx h0
        have rA : -600 ≤ (chord p lo hi).A ∧ (chord p lo hi).A ≤ 600 := by
          have a1 := lin_nonneg hc kA.1 (al := 1) (be := 0) (c := 600) (fun p hp => by have := hc.rg p hp; unfold lin; omega)
          have a2 := lin_nonneg hc kA.1 (al := -1) (be := 0) (c := 600) (fun p hp => by have := hc.rg p hp; unfold lin; omega)
          unfold lin at a1 a2; simp only at a1 a2; omega
        have rB : -600 ≤ (chord p lo hi).B ∧ (chord p lo hi).B ≤ 600 := by
          have a1 := lin_nonneg hc kB.1 (al := 1) (be := 0) (c := 600) (fun p hp => by have := hc.rg p hp; unfold lin; omega)
          have a2 := lin_nonneg hc kB.1 (al := -1) (be := 0) (c := 600) (fun p hp => by have := hc.rg p hp; unfold lin; omega)
          unfold lin at a1 a2; simp only at a1 a2; omega
        rw [w64_id (n := (chord p lo hi).A - 1) (by omega) (by omega), w64_id (n := (chord p lo hi).B + 1) (by omega) (by omega), (inside_in h0 _ _ _ _).2 ⟨kA.1, kA.2, kB.1, kB.2⟩]
        have n1 : (has (hull p) ⟨(chord p lo hi).A - 1, lo⟩ && (has (hull p) ⟨(chord p lo hi).A - 1, hi⟩ && (has (hull p) ⟨(chord p lo hi).B, lo⟩ && has (hull p) ⟨(chord p lo hi).B, hi⟩))) = false := by
          cases hb : (has (hull p) ⟨(chord p lo hi).A - 1, lo⟩ && (has (hull p) ⟨(chord p lo hi).A - 1, hi⟩ && (has (hull p) ⟨(chord p lo hi).B, lo⟩ && has (hull p) ⟨(chord p lo hi).B, hi⟩))) with
          | false => rfl
          | true =>
            have q := (inside_in h0 _ _ _ _).1 hb
            have := (h3 _).2 ⟨q.1, q.2.1⟩
            omega
        have n2 : (has (hull p) ⟨(chord p lo hi).A, lo⟩ && (has (hull p) ⟨(chord p lo hi).A, hi⟩ && (has (hull p) ⟨(chord p lo hi).B + 1, lo⟩ && has (hull p) ⟨(chord p lo hi).B + 1, hi⟩))) = false := by
          cases hb : (has (hull p) ⟨(chord p lo hi).A, lo⟩ && (has (hull p) ⟨(chord p lo hi).A, hi⟩ && (has (hull p) ⟨(chord p lo hi).B + 1, lo⟩ && has (hull p) ⟨(chord p lo hi).B + 1, hi⟩))) with
          | false => rfl
          | true =>
            have q := (inside_in h0 _ _ _ _).1 hb
            have := (h3 _).2 ⟨q.2.2.1, q.2.2.2⟩
            omega
        rw [n1, n2]
        simp [awake_true, law09_PolyChord_k3]
    · exact .inr hxr
  unfold law09_PolyChord
  by_cases hl : ((p.length : Nat) : Int) > 32
  · rw [decide_eq_true hl]; exact k1t
  rw [decide_eq_false hl, ref_range p (by omega)]
  simp only [cond_false, Option.bind_some]
  cases p.all inRange with
  | false => exact k1t
  | true =>
    simp only [Bool.not_true, cond_false]
    by_cases c1 : x < -1000
    · rw [decide_eq_true c1]; exact k1t
    rw [decide_eq_false c1]
    by_cases c2 : x > 1000
    · rw [decide_eq_true c2]; exact k1t
    rw [decide_eq_false c2]
    rcases main with h | h
    · exact h
    · omega
/-- With further points the hull does not vanish. -/
theorem hull_more {a b : List Point} (ha : hull a ≠ []) (hs : ∀ p ∈ a, p ∈ b) (hl : b.length ≤ 32) (hr : b.all inRange = true) : hull b ≠ [] := by
  intro e
  have hc := hull_cvx ha
  have hn := hc.n3
  have t := hc.tn 0 (by omega)
  have m : ∀ p ∈ hull a, p ∈ b := fun p hp => hs p (hull_mem hp)
  rw [hull_nil hl hr e (m _ (getD_mem' (by omega))) (m _ (getD_mem' (Nat.mod_lt _ (by omega)))) (m _ (getD_mem' (Nat.mod_lt _ (by omega))))] at t
  omega
theorem chord_sub {a b : List Point} {lo hi lo' hi' : Int} (hs : (chord a lo hi).A < (chord a lo hi).B) (hl : lo' < hi') (h : ∀ X, inH (hull a) X lo → inH (hull a) X hi → inH (hull b) X lo' ∧ inH (hull b) X hi') (hb : hull a ≠ [] → hull b ≠ []) : (chord b lo' hi').A ≤ (chord a lo hi).A ∧ (chord a lo hi).B ≤ (chord b lo' hi').B := by
  rcases chord_spec a lo hi with ⟨e, _⟩ | ⟨h0, _, h2, h3⟩
  · rw [e] at hs; exact absurd hs (by decide)
  have kA := (h3 _).1 ⟨Int.le_refl _, Int.le_of_lt h2⟩
  have kA1 := (h3 ((chord a lo hi).A + 1)).1 ⟨by omega, by omega⟩
  have kB := (h3 _).1 ⟨Int.le_of_lt h2, Int.le_refl _⟩
  have gA := h _ kA.1 kA.2
  have gA1 := h _ kA1.1 kA1.2
  have gB := h _ kB.1 kB.2
  rcases chord_spec b lo' hi' with ⟨_, hno⟩ | ⟨_, _, _, k3⟩
  · exact absurd ⟨gA.1, gA.2, gA1.1, gA1.2⟩ (hno _ (hb h0) hl)
  · exact ⟨((k3 _).2 gA).1, ((k3 _).2 gB).2⟩
theorem PolyWithin_true' (p q : List Point) (y : List Int) (h1 : p.length ≤ 2097152) (h2 : q.length ≤ 2097152) : law09_PolyWithin p q y = some true := by
  have k1t : law09_PolyWithin_k1 p q y true = some true := by unfold law09_PolyWithin_k1; simp [awake_true]
  unfold law09_PolyWithin
  rw [room_t (by omega), room_t (by omega)]
  simp only [cond_true, List.nil_append, Nat.zero_add]
  by_cases hl : (((p.length + q.length : Nat) : Int)) > 32
  · rw [decide_eq_true hl]; exact k1t
  rw [decide_eq_false hl, ref_range (p ++ q) (by simp; omega)]
  simp only [cond_false, Option.bind_some]
  cases hr : (p ++ q).all inRange with
  | false => exact k1t
  | true =>
    simp only [Bool.not_true, cond_false]
    by_cases c1 : y.getD 0 default > y.getD 1 default
    · rw [decide_eq_true c1]; exact k1t
    rw [decide_eq_false c1]
    by_cases c2 : y.getD 1 default ≥ y.getD 2 default
    · rw [decide_eq_true c2]; exact k1t
    rw [decide_eq_false c2]
    by_cases c3 : y.getD 2 default > y.getD 3 default
    · rw [decide_eq_true c3]; exact k1t
    rw [decide_eq_false c3]
    unfold law09_PolyWithin_k1
    simp only [cond_false, polyChord_eq, Option.bind_some, List.nil_append]
    generalize y.getD 0 default = y0 at *
    generalize y.getD 1 default = y1 at *
    generalize y.getD 2 default = y2 at *
    generalize y.getD 3 default = y3 at *
    by_cases hs : (chord p y0 y3).A ≥ (chord p y0 y3).B
    · rw [decide_eq_true hs]
      have e : chord p y0 y3 = ⟨0, 0⟩ := by
        rcases chord_spec p y0 y3 with ⟨e, _⟩ | ⟨_, _, h2, _⟩
        · exact e
        · omega
      rw [e]
      simp [awake_true, law09_PolyWithin_k2]
    · rw [decide_eq_false hs]
      have s1 := chord_sub (a := p) (b := p) (lo := y0) (hi := y3) (lo' := y1) (hi' := y2) (by omega) (by omega) (fun X g1 g2 => ⟨in_between g1 g2 (by omega) (by omega), in_between g1 g2 (by omega) (by omega)⟩) (fun h => h)
      have s2 := chord_sub (a := p) (b := p ++ q) (lo := y0) (hi := y3) (lo' := y0) (hi' := y3) (by omega) (by omega) (fun X g1 g2 => by
          by_cases h0 : hull p = []
          · rcases chord_spec p y0 y3 with ⟨e, _⟩ | ⟨h, _⟩
            · rw [e] at hs; exact absurd (show (0 : Int) ≥ 0 by decide) hs
            · exact absurd h0 h
          · exact ⟨in_more h0 (fun p hp => by simp [hp]) g1, in_more h0 (fun p hp => by simp [hp]) g2⟩)
        (fun h => hull_more h (fun p hp => by simp [hp]) (by simp; omega) hr)
      rw [decide_eq_true s1.1, decide_eq_true s1.2, decide_eq_true s2.1, decide_eq_true s2.2]
      simp [awake_true, law09_PolyWithin_k3]
end Saw
end Go.SL
