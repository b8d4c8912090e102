/- Poly's plain mathematics, part 34: Has on a convex polygon. -/
import Derived.Test.YtcppgjcniljkcaaDoorPMa4
import Derived.Test.YtcppgjcniljkcaaDoorPMa1
set_option linter.unusedVariables false
set_option linter.unusedSimpArgs false
namespace Go.SL
namespace Saw

theorem onE_iff {p q c : Point} : onE p q c = true ↔ cross p q c = 0 ∧ imin p.X q.X ≤ c.X ∧ c.X ≤ imax p.X q.X ∧ imin p.Y q.Y ≤ c.Y ∧ c.Y ≤ imax p.Y q.Y := by
  unfold onE; simp
theorem imin_c (a b : Int) : (imin a b = a ∧ a ≤ b) ∨ (imin a b = b ∧ b ≤ a) := by unfold imin; split <;> omega
theorem imax_c (a b : Int) : (imax a b = a ∧ b ≤ a) ∨ (imax a b = b ∧ a ≤ b) := by unfold imax; split <;> omega
theorem lin_idx (al be c0 : Int) (p q : Point) (X y : Int) : (q.X - p.X) * lin al be c0 ⟨X, y⟩ = (q.X - X) * lin al be c0 p + (X - p.X) * lin al be c0 q + be * cross p q ⟨X, y⟩ := by unfold lin cross; grind
theorem mul_nn {d v : Int} (hd : 0 < d) (h : 0 ≤ d * v) : 0 ≤ v := by
  refine Classical.byContradiction fun hn => ?_
  have := Int.mul_pos hd (show 0 < -v by omega)
  rw [Int.mul_neg] at this
  omega
theorem seg_lin {al be c0 : Int} {p q c : Point} (ho : onE p q c = true) (hp : 0 ≤ lin al be c0 p) (hq : 0 ≤ lin al be c0 q) : 0 ≤ lin al be c0 c := by
  obtain ⟨h0, h1, h2, h3, h4⟩ := onE_iff.1 ho
  have m1 := imin_c p.X q.X
  have m2 := imax_c p.X q.X
  have m3 := imin_c p.Y q.Y
  have m4 := imax_c p.Y q.Y
  obtain ⟨X, y⟩ := c
  simp only at h1 h2 h3 h4
  have iy := lin_id al be c0 p q X y
  have ix := lin_idx al be c0 p q X y
  rw [h0, Int.mul_zero] at iy ix
  rcases Int.lt_trichotomy p.Y q.Y with c | c | c
  · have a1 := Int.mul_nonneg (show 0 ≤ q.Y - y by omega) hp
    have a2 := Int.mul_nonneg (show 0 ≤ y - p.Y by omega) hq
    exact mul_nn (show 0 < q.Y - p.Y by omega) (by omega)
  · rcases Int.lt_trichotomy p.X q.X with d | d | d
    · have a1 := Int.mul_nonneg (show 0 ≤ q.X - X by omega) hp
      have a2 := Int.mul_nonneg (show 0 ≤ X - p.X by omega) hq
      exact mul_nn (show 0 < q.X - p.X by omega) (by omega)
    · have ex : X = p.X := by omega
      have ey : y = p.Y := by omega
      rw [ex, ey]; exact hp
    · have a1 := Int.mul_nonneg (show 0 ≤ -(q.X - X) by omega) hp
      have a2 := Int.mul_nonneg (show 0 ≤ -(X - p.X) by omega) hq
      rw [Int.neg_mul] at a1 a2
      refine mul_nn (show 0 < -(q.X - p.X) by omega) ?_
      rw [Int.neg_mul]; omega
  · have a1 := Int.mul_nonneg (show 0 ≤ -(q.Y - y) by omega) hp
    have a2 := Int.mul_nonneg (show 0 ≤ -(y - p.Y) by omega) hq
    rw [Int.neg_mul] at a1 a2
    refine mul_nn (show 0 < -(q.Y - p.Y) by omega) ?_
    rw [Int.neg_mul]; omega
theorem onE_in {H : List Point} (hc : Cvx H) {j : Nat} (hj : j < H.length) {c : Point} (ho : onE (Ep H j) (Eq' H j) c = true) : inH H c.X c.Y := by
  have hn := hc.n3
  intro i hi
  have e : (⟨c.X, c.Y⟩ : Point) = c := rfl
  rw [e, cross_lin]
  refine seg_lin ho ?_ ?_
  · rw [← cross_lin]; exact hc.lf i hi _ (getD_mem' hj)
  · rw [← cross_lin]; exact hc.lf i hi _ (getD_mem' (Nat.mod_lt _ (by omega)))
/-- On the line of an edge, between its heights. -/
theorem on_up {p q c : Point} (hpq : p.Y < q.Y) (h1 : p.Y ≤ c.Y) (h2 : c.Y ≤ q.Y) (h0 : cross p q c = 0) : onE p q c = true ∧ onE q p c = true := by
  have e : (q.Y - p.Y) * (c.X - p.X) = (q.X - p.X) * (c.Y - p.Y) := by unfold cross at h0; grind
  have e' : (q.Y - p.Y) * (q.X - c.X) = (q.X - p.X) * (q.Y - c.Y) := by unfold cross at h0; grind
  have d : 0 < q.Y - p.Y := by omega
  have m1 := imin_c p.X q.X
  have m2 := imax_c p.X q.X
  have m3 := imin_c p.Y q.Y
  have m4 := imax_c p.Y q.Y
  have n1 := imin_c q.X p.X
  have n2 := imax_c q.X p.X
  have n3 := imin_c q.Y p.Y
  have n4 := imax_c q.Y p.Y
  have h0' : cross q p c = 0 := by rw [cross_neg, h0]; rfl
  rw [onE_iff, onE_iff]
  rcases Int.le_total p.X q.X with c1 | c1
  · have a1 := mul_nn d (v := c.X - p.X) (by rw [e]; exact Int.mul_nonneg (by omega) (by omega))
    have a2 := mul_nn d (v := q.X - c.X) (by rw [e']; exact Int.mul_nonneg (by omega) (by omega))
    exact ⟨⟨h0, by omega, by omega, by omega, by omega⟩, h0', by omega, by omega, by omega, by omega⟩
  · have a1 := mul_nn d (v := -(c.X - p.X)) (by rw [Int.mul_neg, e, ← Int.neg_mul]; exact Int.mul_nonneg (by omega) (by omega))
    have a2 := mul_nn d (v := -(q.X - c.X)) (by rw [Int.mul_neg, e', ← Int.neg_mul]; exact Int.mul_nonneg (by omega) (by omega))
    exact ⟨⟨h0, by omega, by omega, by omega, by omega⟩, h0', by omega, by omega, by omega, by omega⟩
theorem onE_end (p q : Point) : onE p q q = true ∧ onE p q p = true := by
  have m1 := imin_c p.X q.X
  have m2 := imax_c p.X q.X
  have m3 := imin_c p.Y q.Y
  have m4 := imax_c p.Y q.Y
  rw [onE_iff, onE_iff]
  exact ⟨⟨cross_self_r _ _, by omega, by omega, by omega, by omega⟩, cross_self_l _ _, by omega, by omega, by omega, by omega⟩
/-- At the top. -/
theorem top_on {H : List Point} (hc : Cvx H) {X y : Int} (h : inH H X y) (htop : ∀ p ∈ H, p.Y ≤ y) {lo hi : Point} (hlo : lo ∈ H) (hhi : hi ∈ H) (h1 : lo.Y ≤ y) (h2 : y ≤ hi.Y) : ∃ j, j < H.length ∧ onE (Ep H j) (Eq' H j) ⟨X, y⟩ = true := by
  have hn := hc.n3
  obtain ⟨j, hj, sj⟩ := span_up hc hlo hhi h1 h2
  have hj1 : (j + 1) % H.length < H.length := Nat.mod_lt _ (by omega)
  have hj2 : ((j + 1) % H.length + 1) % H.length < H.length := Nat.mod_lt _ (by omega)
  obtain ⟨s1, s2, s3⟩ := sj
  have i1 := nxt_ix hc hj
  have cj := h j hj
  have cj1 := h _ hj1
  have cj2 := h _ hj2
  have tj := hc.tn j hj
  have tj1 := hc.tn _ hj1
  have zq : (Eq' H j).Y ≤ y := htop _ (getD_mem' hj1)
  have zr : (Ep H (((j + 1) % H.length + 1) % H.length)).Y ≤ y := htop _ (getD_mem' hj2)
  have zs : (Eq' H (((j + 1) % H.length + 1) % H.length)).Y ≤ y := htop _ (getD_mem' (Nat.mod_lt _ (by omega)))
  have er : Ep H (((j + 1) % H.length + 1) % H.length) = Ep H ((j + 2) % H.length) := i1.2
  have es : Eq' H ((j + 1) % H.length) = Ep H (((j + 1) % H.length + 1) % H.length) := rfl
  rw [i1.1, es] at cj1
  rw [i1.1, es] at tj1
  have e3 : Ep H (((j + 1) % H.length + 2) % H.length) = Eq' H (((j + 1) % H.length + 1) % H.length) := by
    show H.getD (((j + 1) % H.length + 2) % H.length) default = H.getD ((((j + 1) % H.length + 1) % H.length + 1) % H.length) default
    rw [Nat.mod_add_mod ((j + 1) % H.length + 1)]
  rw [e3] at tj1
  rw [← er] at tj
  -- the edge j+1
  by_cases hz : (Ep H (((j + 1) % H.length + 1) % H.length)).Y = y
  · -- a horizontal edge at the top
    refine ⟨(j + 1) % H.length, hj1, ?_⟩
    rw [i1.1, es, onE_iff]
    generalize Ep H j = p at *
    generalize Eq' H j = q at *
    generalize Ep H (((j + 1) % H.length + 1) % H.length) = r at *
    generalize Eq' H (((j + 1) % H.length + 1) % H.length) = t at *
    have hq : q.Y = y := by omega
    have x1 : X ≤ q.X := by
      have : cross p q ⟨X, y⟩ = (q.Y - p.Y) * (q.X - X) := by unfold cross; simp only; rw [← hq]; grind
      rw [this] at cj
      have := mul_nn (show 0 < q.Y - p.Y by omega) cj
      omega
    have rq : r.X < q.X := by
      have : cross p q r = (q.Y - p.Y) * (q.X - r.X) := by unfold cross; rw [hz, ← hq]; grind
      rw [this] at tj
      refine Classical.byContradiction fun hn' => ?_
      have := Int.mul_nonneg (show 0 ≤ q.Y - p.Y by omega) (show 0 ≤ -(q.X - r.X) by omega)
      rw [Int.mul_neg] at this
      omega
    have tY : t.Y < y := by
      have : cross q r t = (q.X - r.X) * (y - t.Y) := by unfold cross; rw [hz, hq]; grind
      rw [this] at tj1
      refine Classical.byContradiction fun hn' => ?_
      have := Int.mul_nonneg (show 0 ≤ q.X - r.X by omega) (show 0 ≤ -(y - t.Y) by omega)
      rw [Int.mul_neg] at this
      omega
    have x2 : r.X ≤ X := by
      have : cross r t ⟨X, y⟩ = (y - t.Y) * (X - r.X) := by unfold cross; simp only; rw [hz]; grind
      rw [this] at cj2
      have := mul_nn (show 0 < y - t.Y by omega) cj2
      omega
    have m1 := imin_c q.X r.X
    have m2 := imax_c q.X r.X
    have m3 := imin_c q.Y r.Y
    have m4 := imax_c q.Y r.Y
    refine ⟨?_, by simp only; omega, by simp only; omega, by simp only; omega, by simp only; omega⟩
    unfold cross
    rw [hz, hq]
    simp
  · -- the top is one corner
    refine ⟨j, hj, ?_⟩
    generalize Ep H j = p at *
    generalize Eq' H j = q at *
    generalize Ep H (((j + 1) % H.length + 1) % H.length) = r at *
    have hq : q.Y = y := by omega
    have x1 : X ≤ q.X := by
      have : cross p q ⟨X, y⟩ = (q.Y - p.Y) * (q.X - X) := by unfold cross; simp only; rw [← hq]; grind
      rw [this] at cj
      have := mul_nn (show 0 < q.Y - p.Y by omega) cj
      omega
    have x2 : q.X ≤ X := by
      have : cross q r ⟨X, y⟩ = (q.Y - r.Y) * (X - q.X) := by unfold cross; simp only; rw [← hq]; grind
      rw [this] at cj1
      have := mul_nn (show 0 < q.Y - r.Y by omega) cj1
      omega
    have e : (⟨X, y⟩ : Point) = q := by
      cases q
      simp only [Point.mk.injEq]
      simp only at hq x1 x2
      omega
    rw [e]
    exact (onE_end p q).1
/-- Left of the edge that goes down: right of nothing. -/
theorem dn_up {p q p' q' : Point} {X y : Int} (hu : p.Y < q.Y) (hd : spD p' q' y) (h1 : 0 ≤ cross p q p') (h2 : 0 ≤ cross p q q') (h3 : cross p' q' ⟨X, y⟩ < 0) : 0 < cross p q ⟨X, y⟩ := by
  obtain ⟨d1, d2, d3⟩ := hd
  have e := lin_id (-(q.Y - p.Y)) (q.X - p.X) (p.X * (q.Y - p.Y) - (q.X - p.X) * p.Y) p' q' X y
  rw [← cross_lin, ← cross_lin, ← cross_lin] at e
  have a1 := Int.mul_nonneg (show 0 ≤ -(q'.Y - y) by omega) h1
  have a2 := Int.mul_nonneg (show 0 ≤ -(y - p'.Y) by omega) h2
  have a3 := Int.mul_pos (show 0 < q.Y - p.Y by omega) (show 0 < -cross p' q' ⟨X, y⟩ by omega)
  rw [Int.neg_mul] at a1 a2
  rw [Int.mul_neg] at a3
  rw [Int.neg_mul] at e
  refine Classical.byContradiction fun hn => ?_
  have a4 := Int.mul_nonneg (show 0 ≤ -(q'.Y - p'.Y) by omega) (show 0 ≤ -cross p q ⟨X, y⟩ by omega)
  rw [Int.neg_mul_neg] at a4
  omega
theorem cro_iff {p q c : Point} : cro p q c = true ↔ (p.Y ≤ c.Y ∧ c.Y < q.Y ∧ 0 < cross p q c) ∨ (q.Y ≤ c.Y ∧ c.Y < p.Y ∧ cross p q c < 0) := by unfold cro; simp
theorem has_cvx {H : List Point} (hc : Cvx H) (hd : H.Nodup) (hl : H.length ≤ 32) {c : Point} (hr : inRange c = true) : has H c = true ↔ inH H c.X c.Y := by
  obtain ⟨v1, v2⟩ := has_val (cvx_chk hc hl) hr
  have hn := hc.n3
  have hne : H ≠ [] := fun e => by rw [e] at hn; simp at hn
  have hb := bounds_YB hne
  obtain ⟨plo, mlo, elo⟩ := hb.lo
  obtain ⟨phi, mhi, ehi⟩ := hb.hi
  have pm : ∀ i, i < H.length → Ep H i ∈ H := fun i hi => getD_mem' hi
  have qm : ∀ i, Eq' H i ∈ H := fun i => getD_mem' (Nat.mod_lt _ (by omega))
  have ec : (⟨c.X, c.Y⟩ : Point) = c := rfl
  by_cases hon : ∃ j, j < H.length ∧ onE (Ep H j) (Eq' H j) c = true
  · obtain ⟨j, hj, ho⟩ := hon
    exact ⟨fun _ => onE_in hc hj ho, fun _ => v1 ⟨j, hj, ho⟩⟩
  have hno : ∀ j, j < H.length → onE (Ep H j) (Eq' H j) c = false := fun j hj => by
    cases ho : onE (Ep H j) (Eq' H j) c with
    | false => rfl
    | true => exact absurd ⟨j, hj, ho⟩ hon
  rw [v2 hno]
  by_cases hy : (bounds H).Y.A ≤ c.Y ∧ c.Y < (bounds H).Y.B
  · obtain ⟨⟨u, hu, u1, u2⟩, d, hd', d1, d2⟩ := half_ex mlo mhi (show plo.Y ≤ c.Y by omega) (show c.Y < phi.Y by omega)
    have hud : u ≠ d := fun e => by subst e; omega
    have oth : ∀ j, 0 ≤ j → j < 0 + H.length → j ≠ u → j ≠ d → cro (Ep H j) (Eq' H j) c = false := fun j _ hj nu nd => by
      cases hcr : cro (Ep H j) (Eq' H j) c with
      | false => rfl
      | true =>
        rcases cro_iff.1 hcr with ⟨c1, c2, _⟩ | ⟨c1, c2, _⟩
        · exact absurd (up_one hc hd (by omega) hu (t := c.Y) c1 (by omega) u1 (by omega)) nu
        · exact absurd (dn_one hc hd (by omega) hd' (t := c.Y) c1 (by omega) d1 (by omega)) nd
    rw [parC_two hud H.length 0 (by omega) (by omega) (by omega) (by omega) oth]
    have su : spU (Ep H u) (Eq' H u) c.Y := ⟨by omega, by omega, by omega⟩
    have sd : spD (Ep H d) (Eq' H d) c.Y := ⟨by omega, by omega, by omega⟩
    have key : inH H c.X c.Y ↔ 0 ≤ cross (Ep H u) (Eq' H u) c ∧ 0 ≤ cross (Ep H d) (Eq' H d) c := by
      refine ⟨fun h => ⟨h u hu, h d hd'⟩, fun ⟨h1, h2⟩ i hi => ?_⟩
      rw [cross_lin]
      refine lin_two su sd ?_ ?_ ?_ ?_ h1 h2
      · rw [← cross_lin]; exact hc.lf i hi _ (pm u hu)
      · rw [← cross_lin]; exact hc.lf i hi _ (qm u)
      · rw [← cross_lin]; exact hc.lf i hi _ (pm d hd')
      · rw [← cross_lin]; exact hc.lf i hi _ (qm d)
    have cu : cro (Ep H u) (Eq' H u) c = decide (0 < cross (Ep H u) (Eq' H u) c) := by
      rw [Bool.eq_iff_iff, cro_iff, decide_eq_true_eq]; omega
    have cd : cro (Ep H d) (Eq' H d) c = decide (cross (Ep H d) (Eq' H d) c < 0) := by
      rw [Bool.eq_iff_iff, cro_iff, decide_eq_true_eq]; omega
    have nzu : cross (Ep H u) (Eq' H u) c ≠ 0 := fun e => by
      have := (on_up su.1 su.2.1 su.2.2 e).1
      rw [hno u hu] at this; cases this
    rw [key, cu, cd]
    by_cases hdn : cross (Ep H d) (Eq' H d) c < 0
    · have := dn_up (X := c.X) su.1 sd (hc.lf u hu _ (pm d hd')) (hc.lf u hu _ (qm d)) hdn
      rw [ec] at this
      rw [decide_eq_true hdn, decide_eq_true this]
      refine ⟨fun h => absurd h (by decide), fun h => by omega⟩
    · rw [decide_eq_false hdn]
      by_cases hup : 0 < cross (Ep H u) (Eq' H u) c
      · rw [decide_eq_true hup]; exact ⟨fun _ => ⟨by omega, by omega⟩, fun _ => rfl⟩
      · rw [decide_eq_false hup]; exact ⟨fun h => absurd h (by decide), fun h => by omega⟩
  · have par0 : parC H c 0 H.length = false := parC_zero H.length 0 (fun j _ hj => by
      cases hcr : cro (Ep H j) (Eq' H j) c with
      | false => rfl
      | true =>
        have a1 := hb.all _ (pm j (by omega))
        have a2 := hb.all _ (qm j)
        rcases cro_iff.1 hcr with ⟨c1, c2, _⟩ | ⟨c1, c2, _⟩ <;> omega)
    rw [par0]
    refine ⟨fun h => absurd h (by decide), fun h => ?_⟩
    have yb := in_YB hc hb h
    obtain ⟨j, hj, ho⟩ := top_on hc h (fun p hp => by have := (hb.all p hp).2; omega) mlo mhi (by omega) (by omega)
    rw [hno j hj] at ho
    cases ho
end Saw
end Go.SL

namespace Go.SL
namespace Saw

theorem hull_has {a : List Point} (h : hull a ≠ []) {X y : Int} (hr : inRange ⟨X, y⟩ = true) : has (hull a) ⟨X, y⟩ = true ↔ inH (hull a) X y :=
  has_cvx (hull_cvx h) (hull_nodup a) (by have := hull_le a; have := (hull_of h).1; omega) hr
theorem hull_has' {a : List Point} (h : hull a ≠ []) (X y : Int) : has (hull a) ⟨X, y⟩ = true ↔ inH (hull a) X y := by
  cases hr : inRange ⟨X, y⟩ with
  | true => exact hull_has h hr
  | false =>
    have e : has (hull a) ⟨X, y⟩ = false := by unfold has; rw [hr]; simp
    rw [e]
    refine ⟨fun h => absurd h (by decide), fun hin => ?_⟩
    have hc := hull_cvx h
    have a1 := lin_nonneg hc hin (al := 1) (be := 0) (c := 600) (fun p hp => by have := hc.rg p hp; unfold lin; omega)
    have a2 := lin_nonneg hc hin (al := -1) (be := 0) (c := 600) (fun p hp => by have := hc.rg p hp; unfold lin; omega)
    have a3 := lin_nonneg hc hin (al := 0) (be := 1) (c := 600) (fun p hp => by have := hc.rg p hp; unfold lin; omega)
    have a4 := lin_nonneg hc hin (al := 0) (be := -1) (c := 600) (fun p hp => by have := hc.rg p hp; unfold lin; omega)
    unfold lin at a1 a2 a3 a4
    simp only at a1 a2 a3 a4
    have : inRange ⟨X, y⟩ = true := inRange_iff.2 (by simp only; omega)
    rw [this] at hr; cases hr
theorem inside_eq (H : List Point) (a b lo hi : Int) : law09_inside H a b lo hi = some (has H ⟨a, lo⟩ && (has H ⟨a, hi⟩ && (has H ⟨b, lo⟩ && has H ⟨b, hi⟩))) := by
  unfold law09_inside law09_pt law09_inside_k1
  simp only [Option.bind_some, (has_eq _ _).1]
  cases has H ⟨a, lo⟩ <;> cases has H ⟨a, hi⟩ <;> cases has H ⟨b, lo⟩ <;> rfl
theorem inside_in {p : List Point} (h : hull p ≠ []) (a b lo hi : Int) : (has (hull p) ⟨a, lo⟩ && (has (hull p) ⟨a, hi⟩ && (has (hull p) ⟨b, lo⟩ && has (hull p) ⟨b, hi⟩))) = true ↔ (inH (hull p) a lo ∧ inH (hull p) a hi ∧ inH (hull p) b lo ∧ inH (hull p) b hi) := by
  rw [Bool.and_eq_true, Bool.and_eq_true, Bool.and_eq_true, hull_has' h, hull_has' h, hull_has' h, hull_has' h]
theorem span_zero (s : Span) : ((s.A == 0) && ((s.B == 0) && true)) = true ↔ s = ⟨0, 0⟩ := by cases s; simp
theorem PolyChord_true (p : List Point) (y : List Int) (x : Int) {w w' : Prop} (_ : w) (_ : w') (hx : i64ok x) : law09_PolyChord p y x = some true := by
  have k1t : law09_PolyChord_k1 p y x true = some true := by unfold law09_PolyChord_k1; simp [awake_true]
  have main : law09_PolyChord_k1 p y x false = some true ∨ ¬ (-1000 ≤ x ∧ x ≤ 1000) := by
    by_cases hxr : -1000 ≤ x ∧ x ≤ 1000
    · refine .inl ?_
      unfold law09_PolyChord_k1
      simp only [cond_false, polyHull_eq, polyChord_eq, Option.bind_some, inside_eq]
      generalize y.getD 0 default = lo
      generalize y.getD 1 default = hi
      rcases chord_spec p lo hi with ⟨e, hno⟩ | ⟨h0, h1, h2, h3⟩
      · rw [(span_zero _).2 e]
        simp only [cond_true]
        by_cases h0 : hull p = []
        · rw [h0]; simp [awake_true, law09_PolyChord_k2]
        · have e0 : ((((hull p).length : Nat) : Int) == 0) = false := by
            have : 0 < (hull p).length := List.length_pos_iff.2 h0
            rw [beq_eq_false_iff_ne]; omega
          rw [e0]
          simp only [cond_false]
          by_cases h1 : lo ≥ hi
          · rw [decide_eq_true h1]; simp [awake_true, law09_PolyChord_k2]
          · rw [decide_eq_false h1, w64_id (by omega) (by omega)]
            have hn := hno x h0 (by omega)
            have : (has (hull p) ⟨x, lo⟩ && (has (hull p) ⟨x, hi⟩ && (has (hull p) ⟨x + 1, lo⟩ && has (hull p) ⟨x + 1, hi⟩))) = false := by
              cases hb : (has (hull p) ⟨x, lo⟩ && (has (hull p) ⟨x, hi⟩ && (has (hull p) ⟨x + 1, lo⟩ && has (hull p) ⟨x + 1, hi⟩))) with
              | false => rfl
              | true => exact absurd ((inside_in h0 _ _ _ _).1 hb) hn
            rw [this]
            simp [awake_true, law09_PolyChord_k2]
      · have hz : (((chord p lo hi).A == 0) && (((chord p lo hi).B == 0) && true)) = false := by
          cases hb : (((chord p lo hi).A == 0) && (((chord p lo hi).B == 0) && true)) with
          | false => rfl
          | true => rw [(span_zero _).1 hb] at h2; exact absurd h2 (by decide)
        rw [hz, decide_eq_true h2, decide_eq_true h1]
        have kA := (h3 _).1 ⟨Int.le_refl _, Int.le_of_lt h2⟩
        have kB := (h3 _).1 ⟨Int.le_of_lt h2, Int.le_refl _⟩
        have hc := hull_cvx h0
        have rA : -600 ≤ (chord p lo hi).A ∧ (chord p lo hi).A ≤ 600 := by
          have a1 := lin_nonneg hc kA.1 (al := 1) (be := 0) (c := 600) (fun p hp => by have := hc.rg p hp; unfold lin; omega)
          have a2 := lin_nonneg hc kA.1 (al := -1) (be := 0) (c := 600) (fun p hp => by have := hc.rg p hp; unfold lin; omega)
          unfold lin at a1 a2; simp only at a1 a2; omega
        have rB : -600 ≤ (chord p lo hi).B ∧ (chord p lo hi).B ≤ 600 := by
          have a1 := lin_nonneg hc kB.1 (al := 1) (be := 0) (c := 600) (fun p hp => by have := hc.rg p hp; unfold lin; omega)
          have a2 := lin_nonneg hc kB.1 (al := -1) (be := 0) (c := 600) (fun p hp => by have := hc.rg p hp; unfold lin; omega)
          unfold lin at a1 a2; simp only at a1 a2; omega
        rw [w64_id (n := (chord p lo hi).A - 1) (by omega) (by omega), w64_id (n := (chord p lo hi).B + 1) (by omega) (by omega), (inside_in h0 _ _ _ _).2 ⟨kA.1, kA.2, kB.1, kB.2⟩]
        have n1 : (has (hull p) ⟨(chord p lo hi).A - 1, lo⟩ && (has (hull p) ⟨(chord p lo hi).A - 1, hi⟩ && (has (hull p) ⟨(chord p lo hi).B, lo⟩ && has (hull p) ⟨(chord p lo hi).B, hi⟩))) = false := by
          cases hb : (has (hull p) ⟨(chord p lo hi).A - 1, lo⟩ && (has (hull p) ⟨(chord p lo hi).A - 1, hi⟩ && (has (hull p) ⟨(chord p lo hi).B, lo⟩ && has (hull p) ⟨(chord p lo hi).B, hi⟩))) with
          | false => rfl
          | true =>
            have q := (inside_in h0 _ _ _ _).1 hb
            have := (h3 _).2 ⟨q.1, q.2.1⟩
            omega
        have n2 : (has (hull p) ⟨(chord p lo hi).A, lo⟩ && (has (hull p) ⟨(chord p lo hi).A, hi⟩ && (has (hull p) ⟨(chord p lo hi).B + 1, lo⟩ && has (hull p) ⟨(chord p lo hi).B + 1, hi⟩))) = false := by
          cases hb : (has (hull p) ⟨(chord p lo hi).A, lo⟩ && (has (hull p) ⟨(chord p lo hi).A, hi⟩ && (has (hull p) ⟨(chord p lo hi).B + 1, lo⟩ && has (hull p) ⟨(chord p lo hi).B + 1, hi⟩))) with
          | false => rfl
          | true =>
            have q := (inside_in h0 _ _ _ _).1 hb
            have := (h3 _).2 ⟨q.2.2.1, q.2.2.2⟩
            omega
        rw [n1, n2]
        simp [awake_true, law09_PolyChord_k3]
    · exact .inr hxr
  unfold law09_PolyChord
  by_cases hl : ((p.length : Nat) : Int) > 32
  · rw [decide_eq_true hl]; exact k1t
  rw [decide_eq_false hl, ref_range p (by omega)]
  simp only [cond_false, Option.bind_some]
  cases p.all inRange with
  | false => exact k1t
  | true =>
    simp only [Bool.not_true, cond_false]
    by_cases c1 : x < -1000
    · rw [decide_eq_true c1]; exact k1t
    rw [decide_eq_false c1]
    by_cases c2 : x > 1000
    · rw [decide_eq_true c2]; exact k1t
    rw [decide_eq_false c2]
    rcases main with h | h
    · exact h
    · omega
/-- With further points the hull does not vanish. -/
theorem hull_more {a b : List Point} (ha : hull a ≠ []) (hs : ∀ p ∈ a, p ∈ b) (hl : b.length ≤ 32) (hr : b.all inRange = true) : hull b ≠ [] := by
  intro e
  have hc := hull_cvx ha
  have hn := hc.n3
  have t := hc.tn 0 (by omega)
  have m : ∀ p ∈ hull a, p ∈ b := fun p hp => hs p (hull_mem hp)
  rw [hull_nil hl hr e (m _ (getD_mem' (by omega))) (m _ (getD_mem' (Nat.mod_lt _ (by omega)))) (m _ (getD_mem' (Nat.mod_lt _ (by omega))))] at t
  omega
theorem chord_sub {a b : List Point} {lo hi lo' hi' : Int} (hs : (chord a lo hi).A < (chord a lo hi).B) (hl : lo' < hi') (h : ∀ X, inH (hull a) X lo → inH (hull a) X hi → inH (hull b) X lo' ∧ inH (hull b) X hi') (hb : hull a ≠ [] → hull b ≠ []) : (chord b lo' hi').A ≤ (chord a lo hi).A ∧ (chord a lo hi).B ≤ (chord b lo' hi').B := by
  rcases chord_spec a lo hi with ⟨e, _⟩ | ⟨h0, _, h2, h3⟩
  · rw [e] at hs; exact absurd hs (by decide)
  have kA := (h3 _).1 ⟨Int.le_refl _, Int.le_of_lt h2⟩
  have kA1 := (h3 ((chord a lo hi).A + 1)).1 ⟨by omega, by omega⟩
  have kB := (h3 _).1 ⟨Int.le_of_lt h2, Int.le_refl _⟩
  have gA := h _ kA.1 kA.2
  have gA1 := h _ kA1.1 kA1.2
  have gB := h _ kB.1 kB.2
  rcases chord_spec b lo' hi' with ⟨_, hno⟩ | ⟨_, _, _, k3⟩
  · exact absurd ⟨gA.1, gA.2, gA1.1, gA1.2⟩ (hno _ (hb h0) hl)
  · exact ⟨((k3 _).2 gA).1, ((k3 _).2 gB).2⟩
theorem PolyWithin_true' (p q : List Point) (y : List Int) (h1 : p.length ≤ 2097152) (h2 : q.length ≤ 2097152) : law09_PolyWithin p q y = some true := by
  have k1t : law09_PolyWithin_k1 p q y true = some true := by unfold law09_PolyWithin_k1; simp [awake_true]
  unfold law09_PolyWithin
  rw [room_t (by omega), room_t (by omega)]
  simp only [cond_true, List.nil_append, Nat.zero_add]
  by_cases hl : (((p.length + q.length : Nat) : Int)) > 32
  · rw [decide_eq_true hl]; exact k1t
  rw [decide_eq_false hl, ref_range (p ++ q) (by simp; omega)]
  simp only [cond_false, Option.bind_some]
  cases hr : (p ++ q).all inRange with
  | false => exact k1t
  | true =>
    simp only [Bool.not_true, cond_false]
    by_cases c1 : y.getD 0 default > y.getD 1 default
    · rw [decide_eq_true c1]; exact k1t
    rw [decide_eq_false c1]
    by_cases c2 : y.getD 1 default ≥ y.getD 2 default
    · rw [decide_eq_true c2]; exact k1t
    rw [decide_eq_false c2]
    by_cases c3 : y.getD 2 default > y.getD 3 default
    · rw [decide_eq_true c3]; exact k1t
    rw [decide_eq_false c3]
    unfold law09_PolyWithin_k1
    simp only [cond_false, polyChord_eq, Option.bind_some, List.nil_append]
    generalize y.getD 0 default = y0 at *
    generalize y.getD 1 default = y1 at *
    generalize y.getD 2 default = y2 at *
    generalize y.getD 3 default = y3 at *
    by_cases hs : (chord p y0 y3).A ≥ (chord p y0 y3).B
    · rw [decide_eq_true hs]
      have e : chord p y0 y3 = ⟨0, 0⟩ := by
        rcases chord_spec p y0 y3 with ⟨e, _⟩ | ⟨_, _, h2, _⟩
        · exact e
        · omega
      rw [e]
      simp [awake_true, law09_PolyWithin_k2]
    · rw [decide_eq_false hs]
      have s1 := chord_sub (a := p) (b := p) (lo := y0) (hi := y3) (lo' := y1) (hi' := y2) (by omega) (by omega) (fun X g1 g2 => ⟨in_between g1 g2 (by omega) (by omega), in_between g1 g2 (by omega) (by omega)⟩) (fun h => h)
      have s2 := chord_sub (a := p) (b := p ++ q) (lo := y0) (hi := y3) (lo' := y0) (hi' := y3) (by omega) (by omega) (fun X g1 g2 => by
          by_cases h0 : hull p = []
          · rcases chord_spec p y0 y3 with ⟨e, _⟩ | ⟨h, _⟩
            · rw [e] at hs; exact absurd (show (0 : Int) ≥ 0 by decide) hs
            · exact absurd h0 h
          · exact ⟨in_more h0 (fun p hp => by simp [hp]) g1, in_more h0 (fun p hp => by simp [hp]) g2⟩)
        (fun h => hull_more h (fun p hp => by simp [hp]) (by simp; omega) hr)
      rw [decide_eq_true s1.1, decide_eq_true s1.2, decide_eq_true s2.1, decide_eq_true s2.2]
      simp [awake_true, law09_PolyWithin_k3]
end Saw
end Go.SL

namespace Go.SL

theorem le_imin {a b X : Int} : X ≤ imin a b ↔ X ≤ a ∧ X ≤ b := by unfold imin; split <;> omega
theorem imax_le' {a b X : Int} : imax a b ≤ X ↔ a ≤ X ∧ b ≤ X := by unfold imax; split <;> omega
theorem imin_or (a b : Int) : (imin a b = a ∧ a ≤ b) ∨ (imin a b = b ∧ b ≤ a) := by unfold imin; split <;> omega
theorem imax_or (a b : Int) : (imax a b = a ∧ b ≤ a) ∨ (imax a b = b ∧ a ≤ b) := by unfold imax; split <;> omega
/-- A loop's run over a list: each element leaves with a result, or goes on with a state. -/
def run {α σ ρ : Type} (step : Nat → α → σ → ρ ⊕ σ) : Nat → List α → σ → ρ ⊕ σ
  | _, [], s => .inr s
  | x, a :: l, s => match step x a s with
    | .inl r => .inl r
    | .inr s' => run step (x + 1) l s'

theorem loop_run {α σ ρ β : Type} [Inhabited α] (l : List α) (L : Nat → σ → Int → Option β) (idx : Nat → Int) (step : Nat → α → σ → ρ ⊕ σ) (fin : ρ ⊕ σ → β) (Inv : Nat → σ → Prop)
    (h0 : ∀ n x s, x < l.length → Inv x s → match step x (l.getD x default) s with | .inl r => L (n + 1) s (idx x) = some (fin (.inl r)) | .inr s' => L (n + 1) s (idx x) = L n s' (idx (x + 1)) ∧ Inv (x + 1) s')
    (h1 : ∀ n s, Inv l.length s → L (n + 1) s (idx l.length) = some (fin (.inr s))) :
    ∀ (n x : Nat) (s : σ), l.length < x + n → x ≤ l.length → Inv x s → L n s (idx x) = some (fin (run step x (l.drop x) s))
  | 0, x, s, hn, hx, _ => by omega
  | n + 1, x, s, hn, hx, hi => by
    by_cases h : x < l.length
    · have k := h0 n x s h hi
      rw [drop_getD l x h]
      unfold run
      cases hs : step x (l.getD x default) s with
      | inl r => rw [hs] at k; exact k
      | inr s' =>
        rw [hs] at k
        rw [k.1]
        exact loop_run l L idx step fin Inv h0 h1 n (x + 1) s' (by omega) (by omega) k.2
    · have e : x = l.length := by omega
      subst e
      rw [List.drop_length]
      exact h1 n s hi
theorem run_inv {α σ ρ : Type} [Inhabited α] (l : List α) (step : Nat → α → σ → ρ ⊕ σ) (Inv : Nat → σ → Prop) (h : ∀ x s s', x < l.length → Inv x s → step x (l.getD x default) s = .inr s' → Inv (x + 1) s') :
    ∀ (x : Nat) (s s' : σ), x ≤ l.length → Inv x s → run step x (l.drop x) s = .inr s' → Inv l.length s' := by
  intro x
  induction hk : l.length - x generalizing x with
  | zero =>
    intro s s' hx hi hr
    have e : x = l.length := by omega
    subst e
    rw [List.drop_length] at hr
    cases hr
    exact hi
  | succ k ih =>
    intro s s' hx hi hr
    have h' : x < l.length := by omega
    rw [drop_getD l x h'] at hr
    unfold run at hr
    cases hs : step x (l.getD x default) s with
    | inl r => rw [hs] at hr; cases hr
    | inr t =>
      rw [hs] at hr
      exact ih (x + 1) (by omega) t s' (by omega) (h x s t h' hi hs) hr

/-- The whole loop from its beginning. -/
theorem loop0 {α σ ρ β : Type} [Inhabited α] (l : List α) (L : Nat → σ → Int → Option β) (idx : Nat → Int) (step : Nat → α → σ → ρ ⊕ σ) (fin : ρ ⊕ σ → β) (Inv : Nat → σ → Prop) (hl : l.length ≤ 1000000)
    (h0 : ∀ n x s, x < l.length → Inv x s → match step x (l.getD x default) s with | .inl r => L (n + 1) s (idx x) = some (fin (.inl r)) | .inr s' => L (n + 1) s (idx x) = L n s' (idx (x + 1)) ∧ Inv (x + 1) s')
    (h1 : ∀ n s, Inv l.length s → L (n + 1) s (idx l.length) = some (fin (.inr s))) {i : Int} (hi : i = idx 0) (s : σ) (hs : Inv 0 s) : L FUEL s i = some (fin (run step 0 l s)) := by
  have := loop_run l L idx step fin Inv h0 h1 FUEL 0 s (by rw [FUEL_eq]; omega) (Nat.zero_le _) hs
  rw [hi]
  simpa using this

/-! ### Loops that look for something -/
def findE {α ε : Type} (bad : α → Option ε) : List α → ε ⊕ Unit
  | [] => .inr ()
  | a :: l => match bad a with | some e => .inl e | none => findE bad l
theorem run_find {α ε : Type} (bad : α → Option ε) : ∀ (l : List α) (x : Nat), run (fun _ a (_ : Unit) => match bad a with | some e => (.inl e : ε ⊕ Unit) | none => .inr ()) x l () = findE bad l
  | [], _ => rfl
  | a :: l, x => by
    unfold run findE
    cases h : bad a with
    | some e => rfl
    | none => exact run_find bad l (x + 1)
theorem loop_find {α ε : Type} [Inhabited α] (l : List α) (L : Nat → Int → Option (ε ⊕ Unit)) (bad : α → Option ε) (hl : l.length ≤ 1000000)
    (h0 : ∀ n x, x < l.length → L (n + 1) ((x : Nat) : Int) = match bad (l.getD x default) with | some e => some (.inl e) | none => L n ((x + 1 : Nat) : Int))
    (h1 : ∀ n, L (n + 1) ((l.length : Nat) : Int) = some (.inr ())) : L FUEL 0 = some (findE bad l) := by
  have := loop0 l (fun n (_ : Unit) x => L n x) (fun x => (x : Int)) (fun _ a _ => match bad a with | some e => (.inl e : ε ⊕ Unit) | none => .inr ()) (fun r => r) (fun _ _ => True) hl
    (fun n x s hx _ => by
      have := h0 n x hx
      cases hb : bad (l.getD x default) with
      | some e => simp only; rw [this, hb]
      | none => simp only; rw [this, hb]; exact ⟨rfl, trivial⟩)
    (fun n s _ => h1 n) (i := 0) rfl () trivial
  rw [run_find] at this
  exact this
theorem findE_none {α ε : Type} {bad : α → Option ε} : ∀ {l : List α}, findE bad l = .inr () ↔ ∀ a ∈ l, bad a = none
  | [] => by simp [findE]
  | a :: l => by
    unfold findE
    cases h : bad a with
    | some e => simp [h]
    | none => simp [h, findE_none (l := l)]
theorem findE_congr {α ε : Type} {b1 b2 : α → Option ε} : ∀ {l : List α}, (∀ a ∈ l, b1 a = b2 a) → findE b1 l = findE b2 l
  | [], _ => rfl
  | a :: l, h => by
    unfold findE
    rw [h a (by simp), findE_congr (fun x hx => h x (List.mem_cons_of_mem _ hx))]

/-! ### Loops that add up -/
def foldi {α σ : Type} (f : Nat → α → σ → σ) : Nat → List α → σ → σ
  | _, [], s => s
  | x, a :: l, s => foldi f (x + 1) l (f x a s)
theorem run_fold {α σ ρ : Type} (f : Nat → α → σ → σ) : ∀ (l : List α) (x : Nat) (s : σ), run (fun x a s => (.inr (f x a s) : ρ ⊕ σ)) x l s = .inr (foldi f x l s)
  | [], _, _ => rfl
  | a :: l, x, s => by unfold run foldi; exact run_fold f l (x + 1) (f x a s)
theorem loop_fold {α σ β : Type} [Inhabited α] (l : List α) (L : Nat → σ → Int → Option β) (idx : Nat → Int) (f : Nat → α → σ → σ) (out : σ → β) (Inv : Nat → σ → Prop) (hl : l.length ≤ 1000000)
    (h0 : ∀ n x s, x < l.length → Inv x s → L (n + 1) s (idx x) = L n (f x (l.getD x default) s) (idx (x + 1)) ∧ Inv (x + 1) (f x (l.getD x default) s))
    (h1 : ∀ n s, Inv l.length s → L (n + 1) s (idx l.length) = some (out s)) {i : Int} (hi : i = idx 0) (s : σ) (hs : Inv 0 s) : L FUEL s i = some (out (foldi f 0 l s)) ∧ Inv l.length (foldi f 0 l s) := by
  have k := loop0 l L idx (fun x a s => (.inr (f x a s) : Unit ⊕ σ)) (fun r => match r with | .inl _ => out s | .inr s => out s) Inv hl (fun n x s hx hi => h0 n x s hx hi) (fun n s hi => h1 n s hi) hi s hs
  rw [run_fold] at k
  refine ⟨k, ?_⟩
  exact run_inv l (fun x a s => (.inr (f x a s) : Unit ⊕ σ)) Inv (fun x s s' hx hi e => by cases e; exact (h0 0 x s hx hi).2) 0 s _ (Nat.zero_le _) hs (by rw [List.drop_zero]; exact run_fold f l 0 s)
theorem foldi_foldl {α σ : Type} (f : α → σ → σ) : ∀ (l : List α) (x : Nat) (s : σ), foldi (fun _ => f) x l s = l.foldl (fun s a => f a s) s
  | [], _, _ => rfl
  | a :: l, x, s => by unfold foldi; exact foldi_foldl f l (x + 1) (f a s)
def mapi {α β : Type} (g : Nat → α → β) : Nat → List α → List β
  | _, [] => []
  | x, a :: l => g x a :: mapi g (x + 1) l
/-- A list that grows by one element each time. -/
theorem foldi_map {α β : Type} (g : Nat → α → β) : ∀ (l : List α) (x : Nat) (t : List β), foldi (fun x a (t : List β) => t ++ [g x a]) x l t = t ++ mapi g x l
  | [], _, t => by simp [foldi, mapi]
  | a :: l, x, t => by unfold foldi mapi; rw [foldi_map g l (x + 1) (t ++ [g x a])]; simp
theorem mapi_len {α β : Type} (g : Nat → α → β) : ∀ (l : List α) (x : Nat), (mapi g x l).length = l.length
  | [], _ => rfl
  | a :: l, x => by simp [mapi, mapi_len g l (x + 1)]
theorem mapi_map {α β : Type} (g : α → β) : ∀ (l : List α) (x : Nat), mapi (fun _ => g) x l = l.map g
  | [], _ => rfl
  | a :: l, x => by simp [mapi, mapi_map g l (x + 1)]
theorem mapi_get {α β : Type} [Inhabited α] [Inhabited β] (g : Nat → α → β) : ∀ (l : List α) (x j : Nat), j < l.length → (mapi g x l).getD j default = g (x + j) (l.getD j default)
  | [], _, j, h => by simp at h
  | a :: l, x, 0, _ => by simp [mapi]
  | a :: l, x, j + 1, h => by
    have := mapi_get g l (x + 1) j (by simpa using h)
    rw [show x + (j + 1) = x + 1 + j by omega]
    simpa [mapi] using this
end Go.SL

namespace Go.SL
namespace Saw

theorem strict_uniq {s t : List Point} (hs : StrictS s) (ht : StrictS t) (h : ∀ p, p ∈ s ↔ p ∈ t) : s = t := by
  induction s generalizing t with
  | nil =>
    cases t with
    | nil => rfl
    | cons b t => have := (h b).2 (by simp); cases this
  | cons a s ih =>
    cases t with
    | nil => have := (h a).1 (by simp); cases this
    | cons b t =>
      obtain ⟨a1, a2⟩ := List.pairwise_cons.1 hs
      obtain ⟨b1, b2⟩ := List.pairwise_cons.1 ht
      have e : a = b := by
        rcases List.mem_cons.1 ((h a).1 (by simp)) with e | ha
        · exact e
        · rcases List.mem_cons.1 ((h b).2 (by simp)) with e | hb
          · exact e.symm
          · exact absurd (a1 b hb) (pLt_asymm (b1 a ha))
      subst e
      rw [ih a2 b2 (fun p => ?_)]
      constructor
      · intro hp
        rcases List.mem_cons.1 ((h p).1 (List.mem_cons_of_mem _ hp)) with e | h'
        · rw [e] at hp; exact absurd (a1 a hp) (pLt_irrefl _)
        · exact h'
      · intro hp
        rcases List.mem_cons.1 ((h p).2 (List.mem_cons_of_mem _ hp)) with e | h'
        · rw [e] at hp; exact absurd (b1 a hp) (pLt_irrefl _)
        · exact h'
theorem hull_set {a b : List Point} (hl : a.length ≤ 32) (hl' : b.length ≤ 32) (h : ∀ p, p ∈ a ↔ p ∈ b) : hull a = hull b := by
  have e : srt a = srt b := strict_uniq (srt_strict a) (srt_strict b) (fun p => by rw [srt_mem, srt_mem]; exact h p)
  have er : a.all inRange = b.all inRange := by
    rw [Bool.eq_iff_iff, List.all_eq_true, List.all_eq_true]
    exact ⟨fun k p hp => k p ((h p).2 hp), fun k p hp => k p ((h p).1 hp)⟩
  unfold hull
  rw [decide_eq_false (by omega), decide_eq_false (by omega), er, e]
theorem hull_hull {a : List Point} (h : hull a ≠ []) : hull (hull a) = hull a :=
  hull_sub h (by have := hull_le a; have := (hull_of h).1; omega) (fun p hp => hull_mem hp) (fun p hp => hp)
theorem conv_L2 (l : List Point) (h : l.length ≤ 32) : ∀ (n x : Nat) (t : List Point), x < n → x ≤ l.length → t = (l.drop x).reverse → law09_PolyConvex_L2 l n t ((x : Int) - 1) = some l.reverse
  | 0, x, t, h1, h2, _ => by omega
  | n + 1, 0, t, h1, h2, h3 => by
    rw [law09_PolyConvex_L2, decide_eq_false (show ¬ ((0 : Nat) : Int) - 1 ≥ 0 by omega), h3, List.drop_zero]; rfl
  | n + 1, x + 1, t, h1, h2, h3 => by
    have hx : x < l.length := by omega
    have ht : t.length ≤ 32 := by rw [h3]; simp; omega
    rw [law09_PolyConvex_L2, show (((x + 1 : Nat) : Int) - 1) = (x : Int) by omega, decide_eq_true (show (x : Int) ≥ 0 by omega), inb_t (by omega) (by omega), room_t (by omega), w64_id (by omega) (by omega)]
    simp only [cond_true, Int.toNat_natCast]
    refine conv_L2 l h n x _ (by omega) (by omega) ?_
    rw [drop_getD l x hx, List.reverse_cons, h3]
theorem find_none {α ε : Type} [Inhabited α] (l : List α) (L : Nat → Int → Option (ε ⊕ Unit)) (hl : l.length ≤ 1000000) (h0 : ∀ n x, x < l.length → L (n + 1) ((x : Nat) : Int) = L n ((x + 1 : Nat) : Int)) (h1 : ∀ n, L (n + 1) ((l.length : Nat) : Int) = some (.inr ())) : L FUEL 0 = some (.inr ()) := by
  have := loop_find l L (fun _ => none) hl (fun n x hx => h0 n x hx) h1
  rw [this]
  congr 1
  exact findE_none.2 (fun _ _ => rfl)
theorem conv_L5 (a : List Point) (hl : a.length ≤ 32) (hr : a.all inRange = true) (h : hull a = []) {i : Nat} (hi : i < a.length) : law09_PolyConvex_L5 a (i : Int) FUEL 0 = some (.inr ()) := by
  have hr' : ∀ j, j < a.length → rng (a.getD j default) := fun j hj => inRange_iff.1 (List.all_eq_true.1 hr _ (getD_mem' hj))
  refine find_none (List.range i) (law09_PolyConvex_L5 a (i : Int)) (by simp; omega) (fun n x hx => ?_) (fun n => ?_)
  · have hx' : x < i := by simpa using hx
    rw [law09_PolyConvex_L5, decide_eq_true (show (x : Int) < (i : Int) by omega), inb_t (by omega) (by omega), inb_t (by omega) (by omega), inb_t (by omega) (by omega)]
    simp only [cond_true, Int.toNat_natCast, Int.toNat_zero, (cross_eq (hr' 0 (by omega)) (hr' x (by omega)) (hr' i hi)).2, Option.bind_some, inc_eq (show x < 4611686018427387904 by omega)]
    rw [hull_nil hl hr h (getD_mem' (by omega)) (getD_mem' (by omega)) (getD_mem' hi)]
    rfl
  · rw [List.length_range, law09_PolyConvex_L5]; simp
theorem conv_L4 (a : List Point) (hl : a.length ≤ 32) (hr : a.all inRange = true) (h : hull a = []) : law09_PolyConvex_L4 a FUEL 0 = some (.inr ()) := by
  refine find_none a (law09_PolyConvex_L4 a) (by omega) (fun n x hx => ?_) (fun n => ?_)
  · rw [law09_PolyConvex_L4, decide_eq_true (show (x : Int) < _ by omega), conv_L5 a hl hr h hx]
    simp only [cond_true, Option.bind_some, Sum.elim_inr, inc_eq (show x < 4611686018427387904 by omega)]
  · rw [law09_PolyConvex_L4]; simp
theorem hull_first {a : List Point} (h : hull a ≠ []) {p : Point} (hp : p ∈ a) : ¬ pLt p (Ep (hull a) 0) := by
  obtain ⟨_, _, e, h5⟩ := hull_of h
  obtain ⟨m, M, lo, up, e1, e2, hm, hM, tm, tM, hlt, ⟨r1, g1⟩, ⟨r2, g2⟩, hH⟩ := hull_form (srt_strict a) h5
  have e0 : Ep (hull a) 0 = m := by show (hull a).getD 0 default = m; rw [e, hH, g1]; rfl
  rw [e0]
  intro hlt'
  rcases tm p ((srt_mem a p).2 hp) with e | h'
  · rw [e] at hlt'; exact pLt_irrefl _ hlt'
  · exact pLt_asymm h' hlt'
theorem conv_L6 (a : List Point) (h : hull a ≠ []) : law09_PolyConvex_L6 a (hull a) FUEL 0 = some (.inr ()) := by
  have hn := (hull_cvx h).n3
  obtain ⟨hl, hr, _, _⟩ := hull_of h
  refine find_none a (law09_PolyConvex_L6 a (hull a)) (by omega) (fun n x hx => ?_) (fun n => ?_)
  · have hm := getD_mem' hx
    have hin : has (hull a) (a.getD x default) = true := (hull_has' h _ _).2 (fun j hj => hull_lf hj hm)
    rw [law09_PolyConvex_L6, decide_eq_true (show (x : Int) < _ by omega), inb_t (by omega) (by omega), inb_t (by omega) (by omega)]
    simp only [cond_true, Int.toNat_natCast, Int.toNat_zero, (has_eq _ _).1, hin, Option.bind_some, Bool.not_true, cond_false, before_eq, law09_PolyConvex_k7, inc_eq (show x < 4611686018427387904 by omega)]
    rw [decide_eq_false (hull_first h hm)]
    rfl
  · rw [law09_PolyConvex_L6]; simp
theorem conv_L9 (a : List Point) (H : List Point) {i : Nat} (hi : i < H.length) (hl : a.length ≤ 32) (hm : H.getD i default ∈ a) : law09_PolyConvex_L9 a H (i : Int) FUEL false 0 = some true := by
  have k := loop_fold a (fun n (b : Bool) x => law09_PolyConvex_L9 a H (i : Int) n b x) (fun x => (x : Int)) (fun _ p b => b || ((p.X == (H.getD i default).X) && (p.Y == (H.getD i default).Y))) (fun b => b) (fun x b => (∃ j, j < x ∧ a.getD j default = H.getD i default) → b = true) (by omega)
    (fun n x b hx hinv => by
      constructor
      · rw [law09_PolyConvex_L9, decide_eq_true (show (x : Int) < _ by omega), inb_t (by omega) (by omega), inb_t (by omega) (by omega)]
        simp only [cond_true, Int.toNat_natCast, law09_PolyConvex_k10, inc_eq (show x < 4611686018427387904 by omega), Bool.and_true]
        cases b <;> simp
      · rintro ⟨j, hj, e⟩
        by_cases hjx : j = x
        · subst hjx; rw [e]; simp
        · rw [hinv ⟨j, by omega, e⟩]; simp)
    (fun n b _ => by rw [law09_PolyConvex_L9]; simp) (i := 0) rfl false (fun ⟨j, hj, _⟩ => by omega)
  rw [k.1]
  congr 1
  obtain ⟨j, hj, e⟩ := List.mem_iff_getElem.1 hm
  exact k.2 ⟨j, hj, by rw [List.getD_eq_getElem?_getD, List.getElem?_eq_getElem hj]; exact e⟩
theorem two_eq {n x : Nat} (hn : 0 < n) (hx : x < 4611686018427387904) : Int.tmod (w64 ((x : Int) + 2)) (n : Int) = (((x + 2) % n : Nat) : Int) := by
  rw [w64_id (by omega) (by omega), show (x : Int) + 2 = ((x + 2 : Nat) : Int) by omega]
  rfl
theorem conv_L8 (a : List Point) (h : hull a ≠ []) : law09_PolyConvex_L8 a (hull a) FUEL 0 = some (.inr ()) := by
  have hc := hull_cvx h
  have hn := hc.n3
  have hl := hull_len32 a
  obtain ⟨hla, hr, _, _⟩ := hull_of h
  refine find_none (hull a) (law09_PolyConvex_L8 a (hull a)) (by omega) (fun n x hx => ?_) (fun n => ?_)
  · have h1 : (x + 1) % (hull a).length < (hull a).length := Nat.mod_lt _ (by omega)
    have h2 : (x + 2) % (hull a).length < (hull a).length := Nat.mod_lt _ (by omega)
    have t := hc.tn x hx
    have rg : ∀ j, j < (hull a).length → rng ((hull a).getD j default) := fun j hj => hc.rg _ (getD_mem' hj)
    rw [law09_PolyConvex_L8, decide_eq_true (show (x : Int) < _ by omega), inb_t (by omega) (by omega), nz_t (by omega), nxt_eq (by omega) (by omega), two_eq (by omega) (by omega), inb_t (by omega) (by omega), inb_t (by omega) (by omega)]
    simp only [cond_true, Int.toNat_natCast, (cross_eq (rg x hx) (rg _ h1) (rg _ h2)).2, Option.bind_some]
    rw [decide_eq_false (show ¬ cross ((hull a).getD x default) ((hull a).getD ((x + 1) % (hull a).length) default) ((hull a).getD ((x + 2) % (hull a).length) default) ≤ 0 by
      have t' : 0 < cross ((hull a).getD x default) ((hull a).getD ((x + 1) % (hull a).length) default) ((hull a).getD ((x + 2) % (hull a).length) default) := t
      omega), conv_L9 a (hull a) hx hla (hull_mem (getD_mem' hx)), inc_eq (show x < 4611686018427387904 by omega)]
    rfl
  · rw [law09_PolyConvex_L8]; simp
theorem PolyConvex_true (a : List Point) {w : Prop} (_ : w) : law09_PolyConvex a = some true := by
  have k1t : law09_PolyConvex_k1 a true = some true := by unfold law09_PolyConvex_k1; simp [awake_true]
  unfold law09_PolyConvex
  by_cases hl : ((a.length : Nat) : Int) > 32
  · rw [decide_eq_true hl]; exact k1t
  rw [decide_eq_false hl, ref_range a (by omega)]
  simp only [cond_false, Option.bind_some]
  cases hr : a.all inRange with
  | false => exact k1t
  | true =>
    have hll := hull_len32 a
    have eb : hull a.reverse = hull a := hull_set (by simp; omega) (by omega) (fun p => by simp)
    unfold law09_PolyConvex_k1
    rw [w64_id (by omega) (by omega), conv_L2 a (by omega) FUEL a.length [] (by rw [FUEL_eq]; omega) (Nat.le_refl _) (by simp)]
    simp only [Bool.not_true, cond_false, polyHull_eq, Option.bind_some, eb, same_self _ (show (hull a).length ≤ 1000000 by omega)]
    by_cases h0 : hull a = []
    · rw [h0]
      simp only [law09_PolyConvex_k3, List.length_nil, conv_L4 a (by omega) hr h0]
      simp [awake_true]
    · have e0 : decide ((((hull a).length : Nat) : Int) > 0) = true := by
        have : 0 < (hull a).length := List.length_pos_iff.2 h0
        exact decide_eq_true (by omega)
      have e1 : ((((hull a).length : Nat) : Int) == 0) = false := by
        have : 0 < (hull a).length := List.length_pos_iff.2 h0
        rw [beq_eq_false_iff_ne]; omega
      rw [e0]
      simp only [cond_true, hull_hull h0, same_self _ (show (hull a).length ≤ 1000000 by omega), Option.bind_some, Bool.not_true, law09_PolyConvex_k3, cond_false, e1, conv_L6 a h0, conv_L8 a h0, Sum.elim_inr, awake_true]
end Saw
end Go.SL

namespace Go.SL

def sumN : Nat → (Nat → Int) → Int
  | 0, _ => 0
  | n + 1, f => sumN n f + f n
theorem sumN_congr {n : Nat} {f g : Nat → Int} (h : ∀ i, i < n → f i = g i) : sumN n f = sumN n g := by
  induction n with
  | zero => rfl
  | succ n ih => rw [sumN, sumN, ih (fun i hi => h i (by omega)), h n (by omega)]
theorem sumN_zero {n : Nat} {f : Nat → Int} (h : ∀ i, i < n → f i = 0) : sumN n f = 0 := by
  induction n with
  | zero => rfl
  | succ n ih => rw [sumN, ih (fun i hi => h i (by omega)), h n (by omega)]; rfl
theorem sumN_split (m n : Nat) (f : Nat → Int) : sumN (m + n) f = sumN m f + sumN n (fun i => f (m + i)) := by
  induction n with
  | zero => simp [sumN]
  | succ n ih => rw [← Nat.add_assoc, sumN, ih, sumN]; omega
theorem sumN_add (n : Nat) (f g : Nat → Int) : sumN n (fun i => f i + g i) = sumN n f + sumN n g := by
  induction n with
  | zero => rfl
  | succ n ih => rw [sumN, sumN, sumN, ih]; omega
theorem sumN_mul (n : Nat) (c : Int) (f : Nat → Int) : sumN n (fun i => c * f i) = c * sumN n f := by
  induction n with
  | zero => simp [sumN]
  | succ n ih => rw [sumN, sumN, ih, Int.mul_add]
theorem sumN_le {n : Nat} {f g : Nat → Int} (h : ∀ i, i < n → f i ≤ g i) : sumN n f ≤ sumN n g := by
  induction n with
  | zero => exact Int.le_refl _
  | succ n ih => rw [sumN, sumN]; have := ih (fun i hi => h i (by omega)); have := h n (by omega); omega
theorem sumN_rev (n : Nat) (f : Nat → Int) : sumN n (fun i => f (n - 1 - i)) = sumN n f := by
  induction n generalizing f with
  | zero => rfl
  | succ n ih =>
    have e := sumN_split 1 n f
    rw [Nat.add_comm 1 n] at e
    rw [e, sumN, ← ih (fun i => f (1 + i))]
    have : sumN n (fun i => f (n + 1 - 1 - i)) = sumN n (fun i => f (1 + (n - 1 - i))) := sumN_congr (fun i hi => by congr 1; omega)
    rw [this]
    simp [sumN]
    omega
theorem sumN_shift (n : Nat) (f : Nat → Int) : sumN (n + 1) f = f 0 + sumN n (fun i => f (i + 1)) := by
  have e := sumN_split 1 n f
  rw [Nat.add_comm 1 n] at e
  rw [e]
  have : sumN n (fun i => f (1 + i)) = sumN n (fun i => f (i + 1)) := sumN_congr (fun i _ => by rw [Nat.add_comm])
  rw [this]
  simp [sumN]
theorem sumN_const (n : Nat) (c : Int) : sumN n (fun _ => c) = n * c := by
  induction n with
  | zero => simp [sumN]
  | succ n ih => rw [sumN, ih, Int.natCast_add, Int.add_mul]; simp
theorem sumN_one {n : Nat} {f : Nat → Int} {k : Nat} (hk : k < n) (h : ∀ i, i < n → i ≠ k → f i = 0) : sumN n f = f k := by
  induction n with
  | zero => omega
  | succ n ih =>
    rw [sumN]
    by_cases e : k = n
    · subst e
      rw [sumN_zero (fun i hi => h i (by omega) (by omega))]; omega
    · rw [ih (by omega) (fun i hi hne => h i (by omega) hne), h n (by omega) (fun e' => e e'.symm)]; omega
theorem foldi_sum {α : Type} [Inhabited α] (F : Nat → α → Int) : ∀ (l : List α) (x : Nat) (s : Int), foldi (fun x a s => s + F x a) x l s = s + sumN l.length (fun i => F (x + i) (l.getD i default))
  | [], x, s => by simp [foldi, sumN]
  | a :: l, x, s => by
    unfold foldi
    rw [foldi_sum F l (x + 1) (s + F x a), List.length_cons, sumN_shift]
    have : sumN l.length (fun i => F (x + 1 + i) (l.getD i default)) = sumN l.length (fun i => F (x + (i + 1)) ((a :: l).getD (i + 1) default)) := sumN_congr (fun i _ => by rw [show x + 1 + i = x + (i + 1) by omega]; simp)
    rw [this]
    simp
    omega
/-- Around a closed walk: the other way. -/
theorem sumN_cyc {n : Nat} (hn : 0 < n) (F : Nat → Nat → Int) : sumN n (fun x => F (n - 1 - x) (n - 1 - (x + 1) % n)) = sumN n (fun j => F ((j + 1) % n) j) := by
  obtain ⟨m, rfl⟩ : ∃ m, n = m + 1 := ⟨n - 1, by omega⟩
  rw [sumN, sumN, ← sumN_rev m (fun j => F ((j + 1) % (m + 1)) j)]
  have e1 : sumN m (fun x => F (m + 1 - 1 - x) (m + 1 - 1 - (x + 1) % (m + 1))) = sumN m (fun i => F ((m - 1 - i + 1) % (m + 1)) (m - 1 - i)) := sumN_congr (fun i hi => by
    rw [Nat.mod_eq_of_lt (show i + 1 < m + 1 by omega), Nat.mod_eq_of_lt (show m - 1 - i + 1 < m + 1 by omega), show m + 1 - 1 - i = m - 1 - i + 1 by omega, show m + 1 - 1 - (i + 1) = m - 1 - i by omega])
  rw [e1]
  congr 1
  rw [Nat.mod_self, show m + 1 - 1 - m = 0 by omega]
  simp
end Go.SL

namespace Go.SL
namespace Saw

theorem lin_sum (a b c a' b' c' : Int) (p : Point) : lin a b c p + lin a' b' c' p = lin (a + a') (b + b') (c + c') p := by unfold lin; grind
theorem meet_pt {u w z h : Point} (h1 : cross u w h = 0) (h2 : cross w z h = 0) (t : 0 < cross u w z) : h = w := by
  have ex : cross u w z * (h.X - w.X) = 0 := by
    have : cross u w z * (h.X - w.X) = cross u w h * (z.X - w.X) - cross w z h * (w.X - u.X) := by unfold cross; grind
    rw [this, h1, h2]; simp
  have ey : cross u w z * (h.Y - w.Y) = 0 := by
    have : cross u w z * (h.Y - w.Y) = cross u w h * (z.Y - w.Y) - cross w z h * (w.Y - u.Y) := by unfold cross; grind
    rw [this, h1, h2]; simp
  have x0 : h.X - w.X = 0 := by rcases Int.mul_eq_zero.1 ex with e | e; · omega
                                · exact e
  have y0 : h.Y - w.Y = 0 := by rcases Int.mul_eq_zero.1 ey with e | e; · omega
                                · exact e
  cases h; cases w
  simp only [Point.mk.injEq]
  simp only at x0 y0
  omega
/-- A map of the plane that keeps linear functions. -/
def LinMap (T : Point → Point) : Prop := ∀ al be c, ∃ al' be' c', ∀ h, lin al be c (T h) = lin al' be' c' h
theorem hull_lin {T : Point → Point} (hT : LinMap T) {p : List Point} (h : hull p ≠ []) (h' : hull (p.map T) ≠ []) : hull ((hull p).map T) = hull (p.map T) := by
  have hle := hull_le p
  obtain ⟨hl, _, _, _⟩ := hull_of h
  refine hull_sub h' (by simp; omega) (fun q hq => ?_) (fun w hw => Classical.byContradiction fun hno => ?_)
  · obtain ⟨r, hr, rfl⟩ := List.mem_map.1 hq
    exact List.mem_map_of_mem (hull_mem hr)
  · have hc := hull_cvx h'
    obtain ⟨w', hw', rfl⟩ := List.mem_map.1 (hull_mem hw)
    obtain ⟨m, hm, ew⟩ := mem_ix hw
    obtain ⟨i, hi, f1, f2⟩ := prev_ix hm
    have t := hc.tn i hi
    rw [f1, f2, ew] at t
    have ez : Ep (hull (p.map T)) ((m + 1) % (hull (p.map T)).length) = Eq' (hull (p.map T)) m := rfl
    rw [ez] at t
    have l1 : ∀ q ∈ p, 0 ≤ cross (Ep (hull (p.map T)) i) (T w') (T q) := fun q hq => by
      have := hull_lf hi (List.mem_map_of_mem (f := T) hq)
      rw [f1, ew] at this
      exact this
    have l2 : ∀ q ∈ p, 0 ≤ cross (T w') (Eq' (hull (p.map T)) m) (T q) := fun q hq => by
      have := hull_lf hm (List.mem_map_of_mem (f := T) hq)
      rw [ew] at this
      exact this
    generalize Ep (hull (p.map T)) i = u at *
    generalize Eq' (hull (p.map T)) m = z at *
    obtain ⟨al, be, c, hf⟩ : ∃ al be c, ∀ h, cross u (T w') (T h) + cross (T w') z (T h) = lin al be c h := by
      obtain ⟨al, be, c, e⟩ := hT (-((T w').Y - u.Y) + -(z.Y - (T w').Y)) (((T w').X - u.X) + (z.X - (T w').X)) ((u.X * ((T w').Y - u.Y) - ((T w').X - u.X) * u.Y) + ((T w').X * (z.Y - (T w').Y) - (z.X - (T w').X) * (T w').Y))
      exact ⟨al, be, c, fun h => by rw [cross_lin, cross_lin, lin_sum]; exact e h⟩
    have hpos : ∀ q ∈ hull p, 0 < lin al be c q := fun q hq => by
      rw [← hf]
      have a1 := l1 q (hull_mem hq)
      have a2 := l2 q (hull_mem hq)
      refine Classical.byContradiction fun hn => ?_
      have := meet_pt (u := u) (w := T w') (z := z) (h := T q) (by omega) (by omega) t
      exact hno (by rw [← this]; exact List.mem_map_of_mem hq)
    have k := lin_pos (hull_cvx h) (X := w'.X) (y := w'.Y) (fun j hj => hull_lf hj hw') hpos
    have e : (⟨w'.X, w'.Y⟩ : Point) = w' := rfl
    rw [e, ← hf, cross_self_r, cross_self_l] at k
    omega
/-- A polygon has a hull. -/
theorem hull_poly {p : List Point} (h : chk p = 0) : hull p ≠ [] := by
  obtain ⟨h3, h32, hr, ha⟩ := chk_facts h
  intro e
  refine ha ?_
  obtain ⟨d, h1, _, hz⟩ := areaS_fan p (Ep p 0) (by omega) p.length 0 0 (by omega)
  have := hz (fun j _ hj => hull_nil h32 hr e (getD_mem' (by omega)) (getD_mem' (by omega)) (getD_mem' (Nat.mod_lt _ (by omega))))
  unfold area
  rw [h1, this]
  simp
/-! ### The maps -/
def T1 (p : Point) : Point := ⟨-p.Y, p.X⟩
theorem T1_lin : LinMap T1 := fun al be c => ⟨be, -al, c, fun h => by unfold lin T1; simp only; grind⟩
theorem LinMap.comp {S T : Point → Point} (hS : LinMap S) (hT : LinMap T) : LinMap (fun p => S (T p)) := fun al be c => by
  obtain ⟨a1, b1, c1, e1⟩ := hS al be c
  obtain ⟨a2, b2, c2, e2⟩ := hT a1 b1 c1
  exact ⟨a2, b2, c2, fun h => by rw [e1, e2]⟩
theorem id_lin : LinMap (fun p => p) := fun al be c => ⟨al, be, c, fun _ => rfl⟩
theorem turnP_succ (k : Nat) (hk : k < 3) (p : Point) : turnP (k + 1) p = T1 (turnP k p) := by
  match k, hk with
  | 0, _ => rfl
  | 1, _ => rfl
  | 2, _ => unfold turnP T1; simp
theorem turnP_lin (k : Nat) (hk : k < 4) : LinMap (turnP k) := by
  induction k with
  | zero => exact id_lin
  | succ k ih =>
    have := LinMap.comp T1_lin (ih (by omega))
    have e : turnP (k + 1) = fun p => T1 (turnP k p) := by funext p; exact turnP_succ k (by omega) p
    rw [e]; exact this
theorem mirP_lin : LinMap mirP := fun al be c => ⟨-al, be, c, fun h => by unfold lin mirP; simp only; grind⟩
end Saw
end Go.SL
