/- Poly's plain mathematics, part 28: both chords. -/
import Derived.Test.YtcppgjcniljkcaaDoorPMa3
set_option linter.unusedVariables false
set_option linter.unusedSimpArgs false
namespace Go.SL
namespace Saw

/-- The least and the greatest X at a height, as the program's loop gives them. -/
def atS (H : List Point) (y : Int) : Int × Int := pS H y 0 H.length ((bounds H).X.A, (bounds H).X.B)
theorem cross_flat {p q : Point} (h1 : ¬ p.Y < q.Y) (h2 : ¬ q.Y < p.Y) (X y : Int) : cross p q ⟨X, y⟩ = (q.X - p.X) * (y - p.Y) := by
  have e : q.Y - p.Y = 0 := by omega
  unfold cross
  rw [e]
  simp
theorem rS_none {H : List Point} (hc : Cvx H) {y : Int} (hy : (∀ p ∈ H, y < p.Y) ∨ (∀ p ∈ H, p.Y < y)) : ∃ r : Int × Int, (rS H y 0 H.length (-600, 600) = .inl r ∨ rS H y 0 H.length (-600, 600) = .inr r) ∧ r.2 < r.1 := by
  rcases rS_spec H y H.length 0 (-600, 600) with ⟨_, e⟩ | ⟨nb, r', e, g1, g2⟩
  · exact ⟨(1, 0), .inl e, by decide⟩
  · refine ⟨r', .inr e, Classical.byContradiction fun hn => ?_⟩
    have k1 := (g1 r'.1).1 (Int.le_refl _)
    have k2 := (g2 r'.1).1 (by omega)
    refine out_none hc hy (fun j hj => nb j (by omega) (by omega)) r'.1 (fun j hj => ?_)
    by_cases c1 : (Ep H j).Y < (Eq' H j).Y
    · exact (upB_iff c1 _ _).1 (k2.2 j (by omega) (by omega) c1)
    · by_cases c2 : (Eq' H j).Y < (Ep H j).Y
      · exact (dnB_iff c2 _ _).1 (k1.2 j (by omega) (by omega) c2)
      · have := nb j (by omega) (by omega)
        rw [cross_flat c1 c2]
        refine Classical.byContradiction fun h => this ⟨c1, c2, by omega⟩
theorem at_iff {H : List Point} (hc : Cvx H) {lo hi : Int} (hb : YB H lo hi) {y : Int} (h1 : lo ≤ y) (h2 : y ≤ hi) (X : Int) : ((atS H y).1 ≤ X ∧ X ≤ (atS H y).2) ↔ inH H X y := by
  obtain ⟨p, hp, ep⟩ := hb.lo
  obtain ⟨q, hq, eq⟩ := hb.hi
  have be := both_eq hc hp hq (show p.Y ≤ y by omega) (show y ≤ q.Y by omega) ((bounds H).X.A, (bounds H).X.B)
  rcases rS_spec H y H.length 0 (-600, 600) with ⟨_, e⟩ | ⟨nb, r', e, g1, g2⟩
  · rw [be] at e; cases e
  · rw [be] at e
    have e' : atS H y = r' := Sum.inr.inj e
    rw [e', g1 X, g2 X]
    constructor
    · rintro ⟨⟨_, k1⟩, _, k2⟩ j hj
      by_cases c1 : (Ep H j).Y < (Eq' H j).Y
      · exact (upB_iff c1 _ _).1 (k2 j (by omega) (by omega) c1)
      · by_cases c2 : (Eq' H j).Y < (Ep H j).Y
        · exact (dnB_iff c2 _ _).1 (k1 j (by omega) (by omega) c2)
        · have := nb j (by omega) (by omega)
          rw [cross_flat c1 c2]
          refine Classical.byContradiction fun h => this ⟨c1, c2, by omega⟩
    · intro hin
      have hn := hc.n3
      have mq : ∀ j, Eq' H j ∈ H := fun j => getD_mem' (Nat.mod_lt _ (by omega))
      have mp : ∀ j, j < H.length → Ep H j ∈ H := fun j hj => getD_mem' hj
      obtain ⟨u, hu, su⟩ := span_up hc hp hq (show p.Y ≤ y by omega) (show y ≤ q.Y by omega)
      obtain ⟨d, hd, sd⟩ := span_dn hc hp hq (show p.Y ≤ y by omega) (show y ≤ q.Y by omega)
      have b1 := upB_le (hc.rg _ (mp u hu)) (hc.rg _ (mq u)) su
      have b2 := dnB_ge (hc.rg _ (mp d hd)) (hc.rg _ (mq d)) sd
      have b3 := (upB_iff su.1 X y).2 (hin u hu)
      have b4 := (dnB_iff sd.1 X y).2 (hin d hd)
      exact ⟨⟨by show -600 ≤ X; omega, fun j j1 j2 j3 => (dnB_iff j3 X y).2 (hin j (by omega))⟩, by show X ≤ 600; omega, fun j j1 j2 j3 => (upB_iff j3 X y).2 (hin j (by omega))⟩
theorem in_YB {H : List Point} (hc : Cvx H) {lo hi : Int} (hb : YB H lo hi) {X y : Int} (h : inH H X y) : lo ≤ y ∧ y ≤ hi := by
  have nb : ∀ j, j < H.length → ¬ bad (Ep H j) (Eq' H j) y := fun j hj hb => by
    have := h j hj
    rw [cross_flat hb.1 hb.2.1] at this
    have := hb.2.2
    omega
  refine ⟨Classical.byContradiction fun hn => ?_, Classical.byContradiction fun hn => ?_⟩
  · exact out_none hc (.inl fun p hp => by have := (hb.all p hp).1; omega) nb X h
  · exact out_none hc (.inr fun p hp => by have := (hb.all p hp).2; omega) nb X h

def chord (a : List Point) (lo hi : Int) : Span :=
  if hull a = [] ∨ hi ≤ lo ∨ lo < (bounds (hull a)).Y.A ∨ (bounds (hull a)).Y.B < hi then ⟨0, 0⟩
  else if imin (atS (hull a) lo).2 (atS (hull a) hi).2 ≤ imax (atS (hull a) lo).1 (atS (hull a) hi).1 then ⟨0, 0⟩
  else ⟨imax (atS (hull a) lo).1 (atS (hull a) hi).1, imin (atS (hull a) lo).2 (atS (hull a) hi).2⟩
theorem YB.rg {H : List Point} {lo hi : Int} (hb : YB H lo hi) (hr : ∀ p ∈ H, rng p) : -600 ≤ lo ∧ hi ≤ 600 := by
  obtain ⟨p, hp, ep⟩ := hb.lo
  obtain ⟨q, hq, eq⟩ := hb.hi
  have h1 := hr p hp
  have h2 := hr q hq
  omega
theorem hull_len32 (a : List Point) : (hull a).length ≤ 64 := by
  by_cases h : hull a = []
  · rw [h]; simp
  · have := (hull_of h).1
    have := hull_len a
    omega
theorem chord_1 {H : List Point} (hr : ∀ p ∈ H, rng p) {y : Int} (hy : -600 ≤ y ∧ y ≤ 600) (hl : H.length ≤ 64) : poly_Chord_1 y (bounds H) H = some (atS H y) := by
  have := chord_loop H y hr hy (by omega) H.length FUEL 0 ((bounds H).X.A, (bounds H).X.B) (by omega) (by rw [FUEL_eq]; omega)
  unfold poly_Chord_1
  rw [show ((0 : Nat) : Int) = 0 from rfl] at this
  simp only at this
  rw [this]
  rfl
theorem polyChord_eq (a : List Point) (lo hi : Int) : poly_Chord a lo hi = some (chord a lo hi) := by
  have hl := hull_len32 a
  unfold poly_Chord poly_Chord_k1 chord
  rw [polyHull_eq]
  simp only [Option.bind_some, (bounds_eq (hull a) (by omega)).1]
  by_cases h0 : hull a = []
  · rw [h0]; simp
  have e0 : ((((hull a).length : Nat) : Int) == 0) = false := by
    have : 0 < (hull a).length := List.length_pos_iff.2 h0
    rw [beq_eq_false_iff_ne]; omega
  have hb := bounds_YB h0
  have hbr := hb.rg (fun p hp => hull_rng hp)
  rw [e0]
  by_cases h1 : hi ≤ lo
  · rw [decide_eq_true (show lo ≥ hi from h1), if_pos (.inr (.inl h1))]; rfl
  rw [decide_eq_false (show ¬ lo ≥ hi from h1)]
  by_cases h2 : lo < (bounds (hull a)).Y.A
  · rw [decide_eq_true h2, if_pos (.inr (.inr (.inl h2)))]; rfl
  rw [decide_eq_false h2]
  by_cases h3 : (bounds (hull a)).Y.B < hi
  · rw [decide_eq_true (show hi > (bounds (hull a)).Y.B from h3), if_pos (.inr (.inr (.inr h3)))]; rfl
  rw [decide_eq_false (show ¬ hi > (bounds (hull a)).Y.B from h3), if_neg (by simp only [h0, false_or]; omega)]
  rw [chord_1 (fun p hp => hull_rng hp) (show -600 ≤ lo ∧ lo ≤ 600 by omega) hl, chord_1 (fun p hp => hull_rng hp) (show -600 ≤ hi ∧ hi ≤ 600 by omega) hl]
  simp only [cond_false, Option.bind_some]
  by_cases h4 : imin (atS (hull a) lo).2 (atS (hull a) hi).2 ≤ imax (atS (hull a) lo).1 (atS (hull a) hi).1
  · rw [decide_eq_true (show _ ≥ _ from h4), if_pos h4]; rfl
  · rw [decide_eq_false (show ¬ _ ≥ _ from h4), if_neg h4]; rfl
theorem across_eq {H : List Point} (hr : ∀ p ∈ H, rng p) {y : Int} (hy : -600 ≤ y ∧ y ≤ 600) (hl : H.length ≤ 64) : ∀ r, (rS H y 0 H.length (-600, 600) = .inl r ∨ rS H y 0 H.length (-600, 600) = .inr r) → ref09_across H y = some r := by
  intro r h
  have := across_loop H y hr hy (by omega) H.length FUEL 0 (-600) 600 (by omega) (by rw [FUEL_eq]; omega)
  unfold ref09_across
  rw [show ((0 : Nat) : Int) = 0 from rfl] at this
  rw [this]
  rcases h with h | h <;> rw [h] <;> rfl
theorem refChord_eq (a : List Point) (lo hi : Int) : ref09_Chord a lo hi = some (chord a lo hi) := by
  have hl := hull_len32 a
  unfold ref09_Chord ref09_Chord_k1 chord
  rw [refHull_eq]
  simp only [Option.bind_some]
  by_cases h0 : hull a = []
  · rw [h0]; simp
  have e0 : ((((hull a).length : Nat) : Int) == 0) = false := by
    have : 0 < (hull a).length := List.length_pos_iff.2 h0
    rw [beq_eq_false_iff_ne]; omega
  have hb := bounds_YB h0
  have hbr := hb.rg (fun p hp => hull_rng hp)
  have hc := hull_cvx h0
  rw [e0]
  by_cases h1 : hi ≤ lo
  · rw [decide_eq_true (show lo ≥ hi from h1), if_pos (.inr (.inl h1))]; rfl
  rw [decide_eq_false (show ¬ lo ≥ hi from h1)]
  by_cases h2 : lo < -600
  · rw [decide_eq_true h2, if_pos (.inr (.inr (.inl (by omega))))]; rfl
  rw [decide_eq_false h2]
  by_cases h3 : 600 < hi
  · rw [decide_eq_true (show hi > 600 from h3), if_pos (.inr (.inr (.inr (by omega))))]; rfl
  rw [decide_eq_false (show ¬ hi > 600 from h3)]
  simp only [cond_false]
  have some_r : ∀ y, ∃ r, (rS (hull a) y 0 (hull a).length (-600, 600) = .inl r ∨ rS (hull a) y 0 (hull a).length (-600, 600) = .inr r) := fun y => by
    cases h : rS (hull a) y 0 (hull a).length (-600, 600) with
    | inl r => exact ⟨r, .inl rfl⟩
    | inr r => exact ⟨r, .inr rfl⟩
  have inner : ∀ y, (bounds (hull a)).Y.A ≤ y → y ≤ (bounds (hull a)).Y.B → ref09_across (hull a) y = some (atS (hull a) y) := fun y y1 y2 => by
    obtain ⟨p, hp, ep⟩ := hb.lo
    obtain ⟨q, hq, eq⟩ := hb.hi
    exact across_eq (fun p hp => hull_rng hp) (by omega) hl _ (.inr (both_eq hc hp hq (by omega) (by omega) _))
  by_cases h4 : lo < (bounds (hull a)).Y.A
  · rw [if_pos (.inr (.inr (.inl h4)))]
    obtain ⟨r, hr, hlt⟩ := rS_none hc (y := lo) (.inl fun p hp => by have := (hb.all p hp).1; omega)
    obtain ⟨r2, hr2⟩ := some_r hi
    rw [across_eq (fun p hp => hull_rng hp) (by omega) hl _ hr, across_eq (fun p hp => hull_rng hp) (by omega) hl _ hr2]
    simp only [Option.bind_some]
    rw [decide_eq_true (show r.1 > r.2 from hlt)]
    rfl
  by_cases h5 : (bounds (hull a)).Y.B < hi
  · rw [if_pos (.inr (.inr (.inr h5)))]
    obtain ⟨r2, hr2, hlt⟩ := rS_none hc (y := hi) (.inr fun p hp => by have := (hb.all p hp).2; omega)
    obtain ⟨r, hr⟩ := some_r lo
    rw [across_eq (fun p hp => hull_rng hp) (by omega) hl _ hr, across_eq (fun p hp => hull_rng hp) (by omega) hl _ hr2]
    simp only [Option.bind_some]
    rw [decide_eq_true (show r2.1 > r2.2 from hlt)]
    cases decide (r.1 > r.2) <;> rfl
  rw [if_neg (by simp only [h0, false_or]; omega), inner lo (by omega) (by omega), inner hi (by omega) (by omega)]
  simp only [Option.bind_some, ref09_Chord_k2]
  have i1 : ∀ a b : Int, imin a b ≤ a ∧ imin a b ≤ b := fun a b => by unfold imin; split <;> omega
  have i2 : ∀ a b : Int, a ≤ imax a b ∧ b ≤ imax a b := fun a b => by unfold imax; split <;> omega
  have m1 := i1 (atS (hull a) lo).2 (atS (hull a) hi).2
  have m2 := i2 (atS (hull a) lo).1 (atS (hull a) hi).1
  by_cases h6 : (atS (hull a) lo).1 > (atS (hull a) lo).2
  · rw [decide_eq_true h6, if_pos (by omega)]; rfl
  rw [decide_eq_false h6]
  by_cases h7 : (atS (hull a) hi).1 > (atS (hull a) hi).2
  · rw [decide_eq_true h7, if_pos (by omega)]; rfl
  rw [decide_eq_false h7]
  by_cases h8 : imin (atS (hull a) lo).2 (atS (hull a) hi).2 ≤ imax (atS (hull a) lo).1 (atS (hull a) hi).1
  · rw [decide_eq_true (show _ ≥ _ from h8), if_pos h8]; rfl
  · rw [decide_eq_false (show ¬ _ ≥ _ from h8), if_neg h8]; rfl
theorem PolyChords_true (a : List Point) (lo hi : Int) (_ : a.length ≤ maxLen ∧ ∀ p ∈ a, i64ok p.X ∧ i64ok p.Y) (_ : i64ok lo) (_ : i64ok hi) : law09_PolyChords a lo hi = some true := by
  unfold law09_PolyChords law09_few
  simp only [Option.bind_some]
  by_cases h : ((a.length : Nat) : Int) ≤ 100
  · rw [decide_eq_true h]
    simp [polyChord_eq, refChord_eq, awake_true, law09_PolyChords_k1]
  · rw [decide_eq_false h]
    simp only [Bool.not_false, cond_true, awake_true, Option.bind_some]
end Saw
end Go.SL

namespace Go.SL
namespace Saw

def lin (al be c : Int) (p : Point) : Int := al * p.X + be * p.Y + c
theorem lin_id (al be c : Int) (p q : Point) (X y : Int) : (q.Y - p.Y) * lin al be c ⟨X, y⟩ = (q.Y - y) * lin al be c p + (y - p.Y) * lin al be c q - al * cross p q ⟨X, y⟩ := by unfold lin cross; grind
theorem cross_lin (u v p : Point) : cross u v p = lin (-(v.Y - u.Y)) (v.X - u.X) (u.X * (v.Y - u.Y) - (v.X - u.X) * u.Y) p := by unfold lin cross; grind
theorem lin_up_nn {al be c : Int} {p q : Point} {X y : Int} (h : spU p q y) (hp : 0 ≤ lin al be c p) (hq : 0 ≤ lin al be c q) (ha : al ≤ 0) (hx : 0 ≤ cross p q ⟨X, y⟩) : 0 ≤ lin al be c ⟨X, y⟩ := by
  obtain ⟨h1, h2, h3⟩ := h
  refine Classical.byContradiction fun hn => ?_
  have e := lin_id al be c p q X y
  have a1 := Int.mul_nonneg (show 0 ≤ q.Y - y by omega) hp
  have a2 := Int.mul_nonneg (show 0 ≤ y - p.Y by omega) hq
  have a3 := Int.mul_nonneg (show 0 ≤ -al by omega) hx
  have a4 := Int.mul_pos (show 0 < q.Y - p.Y by omega) (show 0 < -lin al be c ⟨X, y⟩ by omega)
  rw [Int.mul_neg] at a4
  rw [Int.neg_mul] at a3
  omega
theorem lin_dn_nn {al be c : Int} {p q : Point} {X y : Int} (h : spD p q y) (hp : 0 ≤ lin al be c p) (hq : 0 ≤ lin al be c q) (ha : 0 ≤ al) (hx : 0 ≤ cross p q ⟨X, y⟩) : 0 ≤ lin al be c ⟨X, y⟩ := by
  obtain ⟨h1, h2, h3⟩ := h
  refine Classical.byContradiction fun hn => ?_
  have e := lin_id al be c p q X y
  have a1 := Int.mul_nonneg (show 0 ≤ -(q.Y - y) by omega) hp
  have a2 := Int.mul_nonneg (show 0 ≤ -(y - p.Y) by omega) hq
  have a3 := Int.mul_nonneg ha hx
  have a4 := Int.mul_pos (show 0 < -(q.Y - p.Y) by omega) (show 0 < -lin al be c ⟨X, y⟩ by omega)
  rw [Int.neg_mul_neg] at a4
  rw [Int.neg_mul] at a1 a2
  omega
theorem lin_two {al be c : Int} {p q p' q' : Point} {X y : Int} (h : spU p q y) (h' : spD p' q' y) (hp : 0 ≤ lin al be c p) (hq : 0 ≤ lin al be c q) (hp' : 0 ≤ lin al be c p') (hq' : 0 ≤ lin al be c q')
    (hx : 0 ≤ cross p q ⟨X, y⟩) (hx' : 0 ≤ cross p' q' ⟨X, y⟩) : 0 ≤ lin al be c ⟨X, y⟩ := by
  by_cases ha : al ≤ 0
  · exact lin_up_nn h hp hq ha hx
  · exact lin_dn_nn h' hp' hq' (by omega) hx'
theorem lin_nonneg {H : List Point} (hc : Cvx H) {X y : Int} (hin : inH H X y) {al be c : Int} (h : ∀ p ∈ H, 0 ≤ lin al be c p) : 0 ≤ lin al be c ⟨X, y⟩ := by
  have hn := hc.n3
  have hne : H ≠ [] := fun e => by rw [e] at hn; simp at hn
  have hb := bounds_YB hne
  have hy := in_YB hc hb hin
  obtain ⟨p, hp, ep⟩ := hb.lo
  obtain ⟨q, hq, eq⟩ := hb.hi
  have mq : ∀ j, Eq' H j ∈ H := fun j => getD_mem' (Nat.mod_lt _ (by omega))
  have mp : ∀ j, j < H.length → Ep H j ∈ H := fun j hj => getD_mem' hj
  obtain ⟨u, hu, su⟩ := span_up hc hp hq (show p.Y ≤ y by omega) (show y ≤ q.Y by omega)
  obtain ⟨d, hd, sd⟩ := span_dn hc hp hq (show p.Y ≤ y by omega) (show y ≤ q.Y by omega)
  exact lin_two su sd (h _ (mp u hu)) (h _ (mq u)) (h _ (mp d hd)) (h _ (mq d)) (hin u hu) (hin d hd)
theorem lin_pos {H : List Point} (hc : Cvx H) {X y : Int} (hin : inH H X y) {al be c : Int} (h : ∀ p ∈ H, 0 < lin al be c p) : 0 < lin al be c ⟨X, y⟩ := by
  have e : ∀ p, lin al be (c - 1) p = lin al be c p - 1 := fun p => by unfold lin; omega
  have := lin_nonneg hc hin (al := al) (be := be) (c := c - 1) (fun p hp => by rw [e]; have := h p hp; omega)
  rw [e] at this
  omega
theorem in_left {H : List Point} (hc : Cvx H) {X y : Int} (hin : inH H X y) {u v : Point} (h : ∀ p ∈ H, 0 ≤ cross u v p) : 0 ≤ cross u v ⟨X, y⟩ := by
  rw [cross_lin]
  exact lin_nonneg hc hin (fun p hp => by rw [← cross_lin]; exact h p hp)
/-- The region of the hull of some of the points lies in that of all. -/
theorem in_more {a b : List Point} (ha : hull a ≠ []) (hs : ∀ p ∈ a, p ∈ b) {X y : Int} (h : inH (hull a) X y) : inH (hull b) X y := by
  intro j hj
  exact in_left (hull_cvx ha) h (fun p hp => hull_lf hj (hs p (hull_mem hp)))
/-- Between two heights. -/
theorem in_between {H : List Point} {X y1 y2 y : Int} (h1 : inH H X y1) (h2 : inH H X y2) (hy1 : y1 ≤ y) (hy2 : y ≤ y2) : inH H X y := by
  intro j hj
  have k1 := h1 j hj
  have k2 := h2 j hj
  generalize Ep H j = u at *
  generalize Eq' H j = v at *
  unfold cross at *
  simp only at *
  by_cases hs : 0 ≤ v.X - u.X
  · have := Int.mul_nonneg hs (show 0 ≤ y - y1 by omega)
    have e : (v.X - u.X) * (y - u.Y) = (v.X - u.X) * (y - y1) + (v.X - u.X) * (y1 - u.Y) := by grind
    omega
  · have := Int.mul_nonneg (show 0 ≤ -(v.X - u.X) by omega) (show 0 ≤ y2 - y by omega)
    have e : (v.X - u.X) * (y - u.Y) = -(v.X - u.X) * (y2 - y) + (v.X - u.X) * (y2 - u.Y) := by grind
    omega

/-- What a chord is. -/
theorem chord_spec (a : List Point) (lo hi : Int) : (chord a lo hi = ⟨0, 0⟩ ∧ ∀ X, hull a ≠ [] → lo < hi → ¬ (inH (hull a) X lo ∧ inH (hull a) X hi ∧ inH (hull a) (X + 1) lo ∧ inH (hull a) (X + 1) hi)) ∨
    (hull a ≠ [] ∧ lo < hi ∧ (chord a lo hi).A < (chord a lo hi).B ∧ ∀ X, ((chord a lo hi).A ≤ X ∧ X ≤ (chord a lo hi).B) ↔ (inH (hull a) X lo ∧ inH (hull a) X hi)) := by
  by_cases h0 : hull a = []
  · exact .inl ⟨by unfold chord; rw [if_pos (.inl h0)], fun X h => absurd h0 h⟩
  have hb := bounds_YB h0
  have hc := hull_cvx h0
  by_cases h1 : hi ≤ lo
  · exact .inl ⟨by unfold chord; rw [if_pos (.inr (.inl h1))], fun X _ h => by omega⟩
  by_cases h2 : lo < (bounds (hull a)).Y.A
  · exact .inl ⟨by unfold chord; rw [if_pos (.inr (.inr (.inl h2)))], fun X _ _ h => by have := (in_YB hc hb h.1).1; omega⟩
  by_cases h3 : (bounds (hull a)).Y.B < hi
  · exact .inl ⟨by unfold chord; rw [if_pos (.inr (.inr (.inr h3)))], fun X _ _ h => by have := (in_YB hc hb h.2.1).2; omega⟩
  have i1 : ∀ X, X ≤ imin (atS (hull a) lo).2 (atS (hull a) hi).2 ↔ X ≤ (atS (hull a) lo).2 ∧ X ≤ (atS (hull a) hi).2 := fun X => imin_le
  have i2 : ∀ X, imax (atS (hull a) lo).1 (atS (hull a) hi).1 ≤ X ↔ (atS (hull a) lo).1 ≤ X ∧ (atS (hull a) hi).1 ≤ X := fun X => imax_le
  have k1 := at_iff hc hb (y := lo) (by omega) (by omega)
  have k2 := at_iff hc hb (y := hi) (by omega) (by omega)
  have key : ∀ X, (imax (atS (hull a) lo).1 (atS (hull a) hi).1 ≤ X ∧ X ≤ imin (atS (hull a) lo).2 (atS (hull a) hi).2) ↔ (inH (hull a) X lo ∧ inH (hull a) X hi) := fun X => by
    rw [i1, i2, ← k1 X, ← k2 X]
    constructor
    · rintro ⟨⟨a1, a2⟩, a3, a4⟩; exact ⟨⟨a1, a3⟩, a2, a4⟩
    · rintro ⟨⟨a1, a2⟩, a3, a4⟩; exact ⟨⟨a1, a3⟩, a2, a4⟩
  by_cases h4 : imin (atS (hull a) lo).2 (atS (hull a) hi).2 ≤ imax (atS (hull a) lo).1 (atS (hull a) hi).1
  · refine .inl ⟨by unfold chord; rw [if_neg (by simp only [h0, false_or]; omega), if_pos h4], fun X _ _ h => ?_⟩
    have q1 := (key X).2 ⟨h.1, h.2.1⟩
    have q2 := (key (X + 1)).2 h.2.2
    omega
  · have e : chord a lo hi = ⟨imax (atS (hull a) lo).1 (atS (hull a) hi).1, imin (atS (hull a) lo).2 (atS (hull a) hi).2⟩ := by
      unfold chord; rw [if_neg (by simp only [h0, false_or]; omega), if_neg h4]
    rw [e]
    exact .inr ⟨h0, by omega, by simp only; omega, key⟩
end Saw
end Go.SL

namespace Go.SL
namespace Saw

theorem par_contra {dx dy ex ey al be : Int} (hd : pos dx dy) (he : pos ex ey) (ha : 0 < al) (hb : 0 ≤ be) (h1 : al * ex = -(be * dx)) (h2 : al * ey = -(be * dy)) : False := by
  unfold pos at hd he
  rcases he with he | ⟨he, he'⟩
  · have a1 := Int.mul_pos ha he
    have a2 := Int.mul_nonneg hb (show 0 ≤ dx by omega)
    omega
  · have a1 := Int.mul_pos ha he'
    rw [he, Int.mul_zero] at h1
    rcases hd with hd | ⟨hd, hd'⟩
    · have b0 : be = 0 := by
        rcases Int.mul_eq_zero.1 (show be * dx = 0 by omega) with h | h
        · exact h
        · omega
      rw [b0] at h2
      simp at h2
      omega
    · have a2 := Int.mul_nonneg hb (show 0 ≤ dy by omega)
      omega
theorem leftF_at {pts : List Point} {u v : Point} : ∀ {l r : List Point}, LeftF pts (l ++ u :: v :: r) → ∀ q ∈ pts, 0 ≤ cross u v q
  | [], r, h => h.1
  | [_], r, h => h.2.1
  | _ :: b :: l, r, h => leftF_at (l := b :: l) h.2
theorem turnsF_at {u v w : Point} : ∀ {l r : List Point}, TurnsF (l ++ u :: v :: w :: r) → 0 < cross u v w
  | [], r, h => h.1
  | [_], r, h => h.2.1
  | [_, _], r, h => h.2.2.1
  | _ :: b :: c :: l, r, h => turnsF_at (l := b :: c :: l) h.2
theorem cross_swap (c p q : Point) : cross c q p = -cross c p q := by unfold cross; grind
/-- A next corner nearer by on the same line can't be. -/
theorem uniq_step {c p1 p2 p3 : Point} (h1 : pLt c p1) (h2 : pLt p1 p2) (h0 : cross c p1 p2 = 0) (h3 : 0 < cross c p1 p3) (h4 : 0 ≤ cross p1 p3 p2) : False := by
  have k1 := lt_pos h1
  have k2 := lt_pos h2
  refine par_contra k1 k2 h3 h4 ?_ ?_
  · have : cross c p1 p3 * (p2.X - p1.X) + cross p1 p3 p2 * (p1.X - c.X) = cross c p1 p2 * (p3.X - p1.X) := by unfold cross; grind
    rw [h0] at this
    omega
  · have : cross c p1 p3 * (p2.Y - p1.Y) + cross p1 p3 p2 * (p1.Y - c.Y) = cross c p1 p2 * (p3.Y - p1.Y) := by unfold cross; grind
    rw [h0] at this
    omega
theorem asc_last {c M : Point} : ∀ {t : List Point}, StrictS (c :: t) → (c :: t).getLast? = some M → c = M ∧ t = [] ∨ pLt c M
  | [], _, h => .inl ⟨by simpa using h, rfl⟩
  | a :: t, hs, h => by
    have h1 := (List.pairwise_cons.1 hs).1
    refine .inr (h1 M ?_)
    rw [List.getLast?_cons_cons] at h
    exact List.mem_of_getLast? h
theorem chain_unique {pts : List Point} {M : Point} : ∀ (t1 t2 : List Point) (c : Point), LeftF pts (c :: t1) → LeftF pts (c :: t2) → TurnsF (c :: t1) → TurnsF (c :: t2) → StrictS (c :: t1) → StrictS (c :: t2) → (∀ p ∈ t1, p ∈ pts) → (∀ p ∈ t2, p ∈ pts) →
    (c :: t1).getLast? = some M → (c :: t2).getLast? = some M → t1 = t2
  | [], t2, c, _, _, _, _, _, s2, _, _, g1, g2 => by
    have : c = M := by simpa using g1
    rcases asc_last s2 g2 with ⟨_, e⟩ | h
    · exact e.symm
    · rw [this] at h; exact absurd h (pLt_irrefl _)
  | p1 :: r1, [], c, _, _, _, _, s1, _, _, _, g1, g2 => by
    have : c = M := by simpa using g2
    rcases asc_last s1 g1 with ⟨_, e⟩ | h
    · exact e
    · rw [this] at h; exact absurd h (pLt_irrefl _)
  | p1 :: r1, p2 :: r2, c, l1, l2, t1, t2, s1, s2, m1, m2, g1, g2 => by
    have a1 := l1.1 p2 (m2 p2 (by simp))
    have a2 := l2.1 p1 (m1 p1 (by simp))
    rw [cross_swap] at a2
    have e0 : cross c p1 p2 = 0 := by omega
    rw [List.getLast?_cons_cons] at g1 g2
    have k1 := (List.pairwise_cons.1 s1).2
    have k2 := (List.pairwise_cons.1 s2).2
    have c1 := (List.pairwise_cons.1 s1).1 p1 (by simp)
    have c2 := (List.pairwise_cons.1 s2).1 p2 (by simp)
    have contra : ∀ {q1 q2 : Point} {w1 w2 : List Point}, pLt c q1 → pLt q1 q2 → cross c q1 q2 = 0 → TurnsF (c :: q1 :: w1) → LeftF pts (q1 :: w1) → q2 ∈ pts → StrictS (q1 :: w1) → StrictS (q2 :: w2) → (q1 :: w1).getLast? = some M → (q2 :: w2).getLast? = some M → False := by
      intro q1 q2 w1 w2 b1 b2 b3 b4 b5 b6 b7 b8 b9 b10
      cases w1 with
      | nil =>
        have : q1 = M := by simpa using b9
        rcases asc_last b8 b10 with ⟨e, _⟩ | h
        · rw [this, e] at b2; exact pLt_irrefl _ b2
        · rw [this] at b2; exact pLt_irrefl _ (pLt_trans b2 h)
      | cons q3 w => exact uniq_step b1 b2 b3 b4.1 (b5.1 q2 b6)
    by_cases e : p1 = p2
    · subst e
      rw [chain_unique r1 r2 p1 l1.2 l2.2 (by cases r1 with | nil => trivial | cons _ _ => exact t1.2) (by cases r2 with | nil => trivial | cons _ _ => exact t2.2) k1 k2 (fun p hp => m1 p (List.mem_cons_of_mem _ hp)) (fun p hp => m2 p (List.mem_cons_of_mem _ hp)) g1 g2]
    · rcases pLt_tri p1 p2 with h | h | h
      · exact (contra c1 h e0 t1 l1.2 (m2 p2 (by simp)) k1 k2 g1 g2).elim
      · exact absurd h e
      · exact (contra c2 h (by rw [cross_swap, e0]; rfl) t2 l2.2 (m1 p1 (by simp)) k2 k1 g2 g1).elim
end Saw
end Go.SL

namespace Go.SL
namespace Saw

theorem leftF_mem {a b : List Point} (h : ∀ p, p ∈ b → p ∈ a) : ∀ {st : List Point}, LeftF a st → LeftF b st
  | [], _ => trivial
  | [_], _ => trivial
  | _ :: _ :: _, ⟨h1, h2⟩ => ⟨fun p hp => h1 p (h p hp), leftF_mem h h2⟩
theorem leftF_ng {pts : List Point} : ∀ {st : List Point}, LeftF pts st → LeftF (pts.map ng) (st.map ng)
  | [], _ => trivial
  | [_], _ => trivial
  | _ :: _ :: _, ⟨h1, h2⟩ => ⟨fun p hp => by obtain ⟨q, hq, rfl⟩ := List.mem_map.1 hp; rw [cross_ng]; exact h1 q hq, leftF_ng h2⟩
theorem turnsF_ng : ∀ {st : List Point}, TurnsF st → TurnsF (st.map ng)
  | [], _ => trivial
  | [_], _ => trivial
  | [_, _], _ => trivial
  | _ :: _ :: _ :: _, ⟨h1, h2⟩ => ⟨by rw [cross_ng]; exact h1, turnsF_ng h2⟩
theorem map_ng_inj {l t : List Point} (h : l.map ng = t.map ng) : l = t := by rw [← map_ng_ng l, h, map_ng_ng]

/-- A chain as a walk from the first to the last of the points. -/
structure Walk (pts w : List Point) (m M : Point) : Prop where
  left : LeftF pts w
  turns : TurnsF w
  asc : StrictS w
  sub : ∀ p ∈ w, p ∈ pts
  first : w.head? = some m
  last : w.getLast? = some M
theorem walk_unique {pts w1 w2 : List Point} {m M : Point} (h1 : Walk pts w1 m M) (h2 : Walk pts w2 m M) : w1 = w2 := by
  cases w1 with
  | nil => have := h1.first; simp at this
  | cons c1 t1 => cases w2 with
    | nil => have := h2.first; simp at this
    | cons c2 t2 =>
      have e1 : c1 = m := by simpa using h1.first
      have e2 : c2 = m := by simpa using h2.first
      subst e1 e2
      rw [chain_unique t1 t2 _ h1.left h2.left h1.turns h2.turns h1.asc h2.asc (fun p hp => h1.sub p (List.mem_cons_of_mem _ hp)) (fun p hp => h2.sub p (List.mem_cons_of_mem _ hp)) h1.last h2.last]
theorem walk_lo {s : List Point} (hs : StrictS s) {m M : Point} (hm : m ∈ s) (hM : M ∈ s) (tm : ∀ p ∈ s, p = m ∨ pLt m p) (tM : ∀ p ∈ s, p = M ∨ pLt p M) : Walk s (chainR s).reverse m M := by
  have hi := chain_inv hs
  have hne : chainR s ≠ [] := fun e => by have := chainR_pos (List.ne_nil_of_mem hm); rw [e] at this; simp at this
  refine ⟨left_rev hi.left, turns_rev hi.turns, List.pairwise_reverse.2 hi.desc, fun p hp => hi.sub p (by simpa using hp), ?_, ?_⟩
  · obtain ⟨t, ht⟩ := some_last hne
    rw [List.head?_reverse, ht]
    have h1 := hi.bot t ht m hm
    have h2 := tm t (hi.sub t (List.mem_of_getLast? ht))
    rcases h1 with e | h1
    · rw [e]
    · rcases h2 with e | h2
      · rw [e]
      · exact absurd h2 (pLt_asymm h1)
  · rw [List.getLast?_reverse]
    cases hcr : chainR s with
    | nil => exact absurd hcr hne
    | cons t r =>
      have h1 := hi.top t r hcr M hM
      have h2 := tM t (hi.sub t (by rw [hcr]; simp))
      rcases h1 with e | h1
      · rw [e]; rfl
      · rcases h2 with e | h2
        · rw [e]; rfl
        · exact absurd h2 (pLt_asymm h1)
theorem walk_up {s : List Point} (hs : StrictS s) {m M : Point} (hm : m ∈ s) (hM : M ∈ s) (tm : ∀ p ∈ s, p = m ∨ pLt m p) (tM : ∀ p ∈ s, p = M ∨ pLt p M) : Walk (s.map ng) ((chainR s.reverse).reverse.map ng) (ng M) (ng m) := by
  have hi := up_inv hs
  have hne : chainR s.reverse ≠ [] := fun e => by have := chainR_pos (a := s.reverse) (by simpa using List.ne_nil_of_mem hm); rw [e] at this; simp at this
  refine ⟨leftF_ng (left_rev hi.left), turnsF_ng (turns_rev hi.turns), List.pairwise_map.2 (List.pairwise_reverse.2 (hi.asc.imp fun h => pLt_ng.2 h)), fun p hp => ?_, ?_, ?_⟩
  · obtain ⟨q, hq, rfl⟩ := List.mem_map.1 hp
    exact List.mem_map_of_mem (hi.sub q (by simpa using hq))
  · obtain ⟨t, ht⟩ := some_last hne
    rw [List.head?_map, List.head?_reverse, ht]
    have h1 := hi.bot t ht M hM
    have h2 := tM t (hi.sub t (List.mem_of_getLast? ht))
    rcases h1 with e | h1
    · rw [e]; rfl
    · rcases h2 with e | h2
      · rw [e]; rfl
      · exact absurd h2 (pLt_asymm h1)
  · rw [List.getLast?_map, List.getLast?_reverse]
    cases hcr : chainR s.reverse with
    | nil => exact absurd hcr hne
    | cons t r =>
      have h1 := hi.top t r hcr m hm
      have h2 := tm t (hi.sub t (by rw [hcr]; simp))
      rcases h1 with e | h1
      · rw [e]; rfl
      · rcases h2 with e | h2
        · rw [e]; rfl
        · exact absurd h2 (pLt_asymm h1)
theorem Walk.sub' {pts pts' w : List Point} {m M : Point} (h : Walk pts w m M) (hs : ∀ p ∈ pts', p ∈ pts) (hw : ∀ p ∈ w, p ∈ pts') : Walk pts' w m M := ⟨leftF_mem hs h.left, h.turns, h.asc, hw, h.first, h.last⟩

/-- The hull of some of the points, among them all corners. -/
theorem hullOf_sub {s s' : List Point} (hs : StrictS s) (hs' : StrictS s') (h5 : ¬ (chainR s).length + (chainR s.reverse).length < 5) (hsub : ∀ p ∈ s', p ∈ s) (hcor : ∀ p ∈ hullOf s, p ∈ s') : hullOf s' = hullOf s := by
  obtain ⟨m, M, lo, up, e1, e2, hm, hM, tm, tM, hlt, ⟨r1, g1⟩, ⟨r2, g2⟩, hH⟩ := hull_form hs h5
  have cm : m ∈ s' := hcor m (by rw [hH, g1]; simp)
  have cM : M ∈ s' := hcor M (by rw [hH, g2]; simp)
  have clo : ∀ p ∈ (chainR s).reverse, p ∈ s' := fun p hp => by
    rw [e1, List.reverse_cons, List.mem_append] at hp
    rcases hp with hp | hp
    · exact hcor p (by rw [hH, List.mem_append]; exact .inl hp)
    · rw [List.mem_singleton.1 hp]; exact cM
  have cup : ∀ p ∈ (chainR s.reverse).reverse, p ∈ s' := fun p hp => by
    rw [e2, List.reverse_cons, List.mem_append] at hp
    rcases hp with hp | hp
    · exact hcor p (by rw [hH, List.mem_append]; exact .inr hp)
    · rw [List.mem_singleton.1 hp]; exact cm
  have tm' : ∀ p ∈ s', p = m ∨ pLt m p := fun p hp => tm p (hsub p hp)
  have tM' : ∀ p ∈ s', p = M ∨ pLt p M := fun p hp => tM p (hsub p hp)
  have w1 := (walk_lo hs hm hM tm tM).sub' hsub clo
  have w2 := walk_lo hs' cm cM tm' tM'
  have w3 := (walk_up hs hm hM tm tM).sub' (pts' := s'.map ng) (fun p hp => by obtain ⟨q, hq, rfl⟩ := List.mem_map.1 hp; exact List.mem_map_of_mem (hsub q hq)) (fun p hp => by obtain ⟨q, hq, rfl⟩ := List.mem_map.1 hp; exact List.mem_map_of_mem (cup q hq))
  have w4 := walk_up hs' cm cM tm' tM'
  have c1 : chainR s' = chainR s := List.reverse_inj.1 (walk_unique w2 w1)
  have c2 : chainR s'.reverse = chainR s.reverse := List.reverse_inj.1 (map_ng_inj (walk_unique w4 w3))
  unfold hullOf
  rw [c1, c2]

/-- No corner occurs twice. -/
theorem hullOf_nodup {s : List Point} (hs : StrictS s) : (hullOf s).Nodup := by
  by_cases h5 : (chainR s).length + (chainR s.reverse).length < 5
  · unfold hullOf; rw [if_pos h5]; exact List.nodup_nil
  obtain ⟨m, M, lo, up, e1, e2, hm, hM, tm, tM, hlt, ⟨r1, g1⟩, ⟨r2, g2⟩, hH⟩ := hull_form hs h5
  have hi := chain_inv hs
  have hu := up_inv hs
  have d1 := hi.desc
  have d2 := hu.asc
  rw [e1, Desc, List.pairwise_cons] at d1
  rw [e2, StrictS, List.pairwise_cons] at d2
  rw [hH, List.nodup_append]
  refine ⟨?_, ?_, ?_⟩
  · rw [List.Nodup, List.pairwise_reverse]
    exact d1.2.imp (fun h e => by rw [e] at h; exact pLt_irrefl _ h)
  · rw [List.Nodup, List.pairwise_reverse]
    exact d2.2.imp (fun h e => by rw [e] at h; exact pLt_irrefl _ h)
  · intro p hp q hq e
    subst e
    have pM : pLt p M := d1.1 p (by simpa using hp)
    have mp : pLt m p := d2.1 p (by simpa using hq)
    have L1 := left_rev hi.left
    have T1 := turns_rev hi.turns
    have L2 := left_rev hu.left
    rw [e1, List.reverse_cons] at L1 T1
    rw [e2, List.reverse_cons] at L2
    have before : ∀ {x : Point} {l r : List Point}, l = x :: r → p ∈ l → p ≠ x → ∃ k1 u k2, l = k1 ++ u :: p :: k2 := by
      intro x l r hl hpl hne
      obtain ⟨k1, k2, e⟩ := List.append_of_mem hpl
      rcases List.eq_nil_or_concat k1 with rfl | ⟨k, u, rfl⟩
      · rw [hl] at e; injection e with e _; exact absurd e.symm hne
      · exact ⟨k, u, k2, by rw [e]; simp⟩
    obtain ⟨k1, u, k2, f1⟩ := before g1 hp (fun e => by rw [e] at mp; exact pLt_irrefl _ mp)
    obtain ⟨k3, z, k4, f2⟩ := before g2 hq (fun e => by rw [e] at pM; exact pLt_irrefl _ pM)
    have hup : pLt u p := by
      have : (lo.reverse).Pairwise pLt := List.pairwise_reverse.2 d1.2
      rw [f1, List.pairwise_append] at this
      exact (List.pairwise_cons.1 this.2.1).1 p (by simp)
    have hpz : pLt p z := by
      have : (up.reverse).Pairwise (fun a b => pLt b a) := List.pairwise_reverse.2 d2.2
      rw [f2, List.pairwise_append] at this
      exact (List.pairwise_cons.1 this.2.1).1 p (by simp)
    have us : u ∈ s := hi.sub u (by rw [e1]; exact List.mem_cons_of_mem _ (by rw [← List.mem_reverse, f1]; simp))
    have zs : z ∈ s := hu.sub z (by rw [e2]; exact List.mem_cons_of_mem _ (by rw [← List.mem_reverse, f2]; simp))
    obtain ⟨v, k5, f3⟩ : ∃ v k5, k2 ++ [M] = v :: k5 := by cases k2 with | nil => exact ⟨M, [], rfl⟩ | cons v k => exact ⟨v, k ++ [M], rfl⟩
    have f4 : lo.reverse ++ [M] = k1 ++ u :: p :: v :: k5 := by rw [f1, List.append_assoc, List.cons_append, List.cons_append, f3]
    rw [f4] at L1 T1
    rw [f2, List.append_assoc] at L2
    have a1 := leftF_at L1 z zs
    have a2 : 0 ≤ cross p v z := leftF_at (l := k1 ++ [u]) (by rw [List.append_assoc]; exact L1) z zs
    have a3 := turnsF_at T1
    have a4 := leftF_at (l := k3) L2 u us
    have e0 : cross u p z = 0 := by
      have : cross z p u = -cross u p z := by unfold cross; grind
      omega
    exact uniq_step hup hpz e0 a3 a2

/-! ### Where there is no hull -/
theorem ends {s : List Point} (hs : StrictS s) (hne : s ≠ []) : ∃ m M, m ∈ s ∧ M ∈ s ∧ (∀ p ∈ s, p = m ∨ pLt m p) ∧ (∀ p ∈ s, p = M ∨ pLt p M) := by
  induction s with
  | nil => exact absurd rfl hne
  | cons a s ih =>
    obtain ⟨h1, h2⟩ := List.pairwise_cons.1 hs
    by_cases h : s = []
    · subst h; exact ⟨a, a, by simp, by simp, by simp, by simp⟩
    · obtain ⟨m, M, hm, hM, t1, t2⟩ := ih h2 h
      refine ⟨a, M, by simp, List.mem_cons_of_mem _ hM, fun p hp => ?_, fun p hp => ?_⟩
      · rcases List.mem_cons.1 hp with rfl | hp
        · exact .inl rfl
        · exact .inr (h1 p hp)
      · rcases List.mem_cons.1 hp with rfl | hp
        · exact .inr (h1 M hM)
        · exact t2 p hp
theorem collinear3 {m M p q r : Point} (hne : m ≠ M) (h1 : cross m M p = 0) (h2 : cross m M q = 0) (h3 : cross m M r = 0) : cross p q r = 0 := by
  have ex : (M.X - m.X) * cross p q r = 0 := by
    have : (M.X - m.X) * cross p q r = (q.X - p.X) * (cross m M r - cross m M p) - (r.X - p.X) * (cross m M q - cross m M p) := by unfold cross; grind
    rw [this, h1, h2, h3]; simp
  have ey : (M.Y - m.Y) * cross p q r = 0 := by
    have : (M.Y - m.Y) * cross p q r = (q.Y - p.Y) * (cross m M r - cross m M p) - (r.Y - p.Y) * (cross m M q - cross m M p) := by unfold cross; grind
    rw [this, h1, h2, h3]; simp
  rcases Int.mul_eq_zero.1 ex with h | h
  · rcases Int.mul_eq_zero.1 ey with h' | h'
    · refine absurd ?_ hne
      cases m; cases M
      simp only [Point.mk.injEq]
      simp only at h h'
      omega
    · exact h'
  · exact h
theorem hullOf_nil {s : List Point} (hs : StrictS s) (h : hullOf s = []) {p q r : Point} (hp : p ∈ s) (hq : q ∈ s) (hr : r ∈ s) : cross p q r = 0 := by
  have h5 : (chainR s).length + (chainR s.reverse).length < 5 := by
    refine Classical.byContradiction fun h5 => ?_
    have := (hull_left hs h5).1
    rw [h] at this; simp at this
  obtain ⟨m, M, hm, hM, t1, t2⟩ := ends hs (List.ne_nil_of_mem hp)
  by_cases e : m = M
  · subst e
    have one : ∀ x ∈ s, x = m := fun x hx => by
      rcases t1 x hx with e | e
      · exact e
      · rcases t2 x hx with e' | e'
        · exact e'
        · exact absurd e (pLt_asymm e')
    rw [one p hp, one q hq, one r hr]
    unfold cross; simp
  · have w1 := walk_lo hs hm hM t1 t2
    have w2 := walk_up hs hm hM t1 t2
    have two : ∀ {w : List Point} {a b : Point}, w.head? = some a → w.getLast? = some b → a ≠ b → 2 ≤ w.length ∧ (w.length = 2 → w = [a, b]) := by
      intro w a b x1 x2 hne
      match w with
      | [] => simp at x1
      | [c] =>
        simp only [List.head?_cons, Option.some.injEq] at x1
        simp only [List.getLast?_singleton, Option.some.injEq] at x2
        exact absurd (x1.symm.trans x2) hne
      | [c, d] =>
        simp only [List.head?_cons, Option.some.injEq] at x1
        simp only [List.getLast?_cons_cons, List.getLast?_singleton, Option.some.injEq] at x2
        exact ⟨by simp, fun _ => by rw [x1, x2]⟩
      | c :: d :: f :: w => exact ⟨by simp, fun h => by simp at h⟩
    have k1 := two w1.first w1.last e
    have k2 := two w2.first w2.last (fun h => e (by rw [← ng_ng m, ← h, ng_ng]))
    rw [List.length_reverse] at k1
    rw [List.length_map, List.length_reverse] at k2
    have f1 := k1.2 (by omega)
    have f2 := k2.2 (by omega)
    have L1 := w1.left
    have L2 := w2.left
    rw [f1] at L1
    rw [f2] at L2
    have z : ∀ x ∈ s, cross m M x = 0 := fun x hx => by
      have a1 := L1.1 x hx
      have a2 := L2.1 (ng x) (List.mem_map_of_mem hx)
      rw [cross_ng] at a2
      have : cross M m x = -cross m M x := by unfold cross; grind
      omega
    exact collinear3 e (z p hp) (z q hq) (z r hr)
theorem hull_nil {a : List Point} (hl : a.length ≤ 32) (hr : a.all inRange = true) (h : hull a = []) {p q r : Point} (hp : p ∈ a) (hq : q ∈ a) (hr' : r ∈ a) : cross p q r = 0 := by
  unfold hull at h
  rw [decide_eq_false (by omega), hr] at h
  exact hullOf_nil (srt_strict a) h ((srt_mem a p).2 hp) ((srt_mem a q).2 hq) ((srt_mem a r).2 hr')
theorem nodup_len {l s : List Point} (hn : l.Nodup) (hs : ∀ p ∈ l, p ∈ s) : l.length ≤ s.length := by
  induction l generalizing s with
  | nil => simp
  | cons a l ih =>
    obtain ⟨h1, h2⟩ := List.nodup_cons.1 hn
    obtain ⟨k1, k2, e⟩ := List.append_of_mem (hs a (by simp))
    have := ih h2 (s := k1 ++ k2) (fun p hp => by
      have := hs p (List.mem_cons_of_mem _ hp)
      rw [e, List.mem_append, List.mem_cons] at this
      rcases this with h | h | h
      · simp [h]
      · rw [h] at hp; exact absurd hp h1
      · simp [h])
    rw [e]
    simp only [List.length_append, List.length_cons] at this ⊢
    omega
theorem hull_nodup (a : List Point) : (hull a).Nodup := by
  by_cases h : hull a = []
  · rw [h]; exact List.nodup_nil
  · rw [(hull_of h).2.2.1]; exact hullOf_nodup (srt_strict a)
theorem hull_le (a : List Point) : (hull a).length ≤ a.length := nodup_len (hull_nodup a) (fun p hp => hull_mem hp)
/-- The hull of some of the points, among them all corners. -/
theorem hull_sub {a b : List Point} (ha : hull a ≠ []) (hb : b.length ≤ 32) (hsub : ∀ p ∈ b, p ∈ a) (hcor : ∀ p ∈ hull a, p ∈ b) : hull b = hull a := by
  obtain ⟨h1, h2, h3, h5⟩ := hull_of ha
  have hr : b.all inRange = true := List.all_eq_true.2 fun p hp => List.all_eq_true.1 h2 p (hsub p hp)
  have e : hull b = hullOf (srt b) := by unfold hull; rw [decide_eq_false (by omega), hr]; rfl
  rw [e, h3]
  refine hullOf_sub (srt_strict a) (srt_strict b) h5 (fun p hp => (srt_mem a p).2 (hsub p ((srt_mem b p).1 hp))) (fun p hp => (srt_mem b p).2 (hcor p (by rw [h3]; exact hp)))
end Saw
end Go.SL

namespace Go.SL
namespace Saw

def parC (a : List Point) (c : Point) : Nat → Nat → Bool
  | _, 0 => false
  | x, m + 1 => xor (cro (Ep a x) (Eq' a x) c) (parC a c (x + 1) m)
theorem hasS_val (a : List Point) (c : Point) : ∀ (m x : Nat) (b : Bool), ((∃ j, x ≤ j ∧ j < x + m ∧ onE (Ep a j) (Eq' a j) c = true) → Sum.elim id id (hasS a c x m b) = true) ∧ ((∀ j, x ≤ j → j < x + m → onE (Ep a j) (Eq' a j) c = false) → Sum.elim id id (hasS a c x m b) = xor b (parC a c x m))
  | 0, x, b => ⟨fun ⟨j, h1, h2, _⟩ => by omega, fun _ => by simp [hasS, parC]⟩
  | m + 1, x, b => by
    obtain ⟨i1, i2⟩ := hasS_val a c m (x + 1) (bif cro (Ep a x) (Eq' a x) c then !b else b)
    unfold hasS
    cases ho : onE (Ep a x) (Eq' a x) c with
    | true => exact ⟨fun _ => rfl, fun h => by rw [h x (by omega) (by omega)] at ho; cases ho⟩
    | false =>
      simp only [cond_false]
      refine ⟨fun ⟨j, h1, h2, h3⟩ => i1 ⟨j, ?_, by omega, h3⟩, fun h => ?_⟩
      · by_cases e : j = x
        · subst e; rw [ho] at h3; cases h3
        · omega
      · rw [i2 (fun j h1 h2 => h j (by omega) (by omega)), parC]
        cases cro (Ep a x) (Eq' a x) c <;> cases b <;> cases parC a c (x + 1) m <;> rfl
theorem parC_zero {a : List Point} {c : Point} : ∀ (m x : Nat), (∀ j, x ≤ j → j < x + m → cro (Ep a j) (Eq' a j) c = false) → parC a c x m = false
  | 0, _, _ => rfl
  | m + 1, x, h => by rw [parC, h x (by omega) (by omega), parC_zero m (x + 1) (fun j h1 h2 => h j (by omega) (by omega))]; rfl
theorem parC_one {a : List Point} {c : Point} {k : Nat} : ∀ (m x : Nat), x ≤ k → k < x + m → (∀ j, x ≤ j → j < x + m → j ≠ k → cro (Ep a j) (Eq' a j) c = false) → parC a c x m = cro (Ep a k) (Eq' a k) c
  | 0, x, h1, h2, _ => by omega
  | m + 1, x, h1, h2, h => by
    rw [parC]
    by_cases e : x = k
    · subst e; rw [parC_zero m (x + 1) (fun j h3 h4 => h j (by omega) (by omega) (by omega))]; simp
    · rw [h x (by omega) (by omega) e, parC_one m (x + 1) (by omega) (by omega) (fun j h3 h4 h5 => h j (by omega) (by omega) h5)]; simp
theorem parC_two {a : List Point} {c : Point} {k l : Nat} (hkl : k ≠ l) : ∀ (m x : Nat), x ≤ k → k < x + m → x ≤ l → l < x + m → (∀ j, x ≤ j → j < x + m → j ≠ k → j ≠ l → cro (Ep a j) (Eq' a j) c = false) → parC a c x m = xor (cro (Ep a k) (Eq' a k) c) (cro (Ep a l) (Eq' a l) c)
  | 0, x, h1, h2, _, _, _ => by omega
  | m + 1, x, h1, h2, h3, h4, h => by
    rw [parC]
    by_cases e : x = k
    · subst e
      rw [parC_one m (x + 1) (k := l) (by omega) (by omega) (fun j h5 h6 h7 => h j (by omega) (by omega) (by omega) h7)]
    · by_cases e' : x = l
      · subst e'
        rw [parC_one m (x + 1) (k := k) (by omega) (by omega) (fun j h5 h6 h7 => h j (by omega) (by omega) h7 (by omega)), Bool.xor_comm]
      · rw [h x (by omega) (by omega) e e', parC_two hkl m (x + 1) (by omega) (by omega) (by omega) (by omega) (fun j h5 h6 h7 h8 => h j (by omega) (by omega) h7 h8)]; simp
theorem has_val {a : List Point} {c : Point} (h1 : chk a = 0) (h2 : inRange c = true) : ((∃ j, j < a.length ∧ onE (Ep a j) (Eq' a j) c = true) → has a c = true) ∧ ((∀ j, j < a.length → onE (Ep a j) (Eq' a j) c = false) → has a c = parC a c 0 a.length) := by
  obtain ⟨i1, i2⟩ := hasS_val a c a.length 0 false
  unfold has
  rw [show (chk a == 0) = true by simpa using h1, h2]
  simp only [Bool.and_self, cond_true]
  refine ⟨fun ⟨j, hj, ho⟩ => i1 ⟨j, by omega, by omega, ho⟩, fun h => ?_⟩
  rw [i2 (fun j _ hj => h j (by omega))]
  simp

/-! ### The area -/
theorem term_cross (o p q : Point) : term p q = cross o p q + (term o q - term o p) := by unfold term cross; grind
theorem areaS_fan (a : List Point) (o : Point) (hn : 0 < a.length) : ∀ (m x : Nat) (acc : Int), x + m ≤ a.length → ∃ d : Int, areaS a x m acc = acc + d + (term o (a.getD ((x + m) % a.length) default) - term o (a.getD (x % a.length) default)) ∧ ((∀ j, x ≤ j → j < x + m → 0 ≤ cross o (Ep a j) (Eq' a j)) → 0 ≤ d ∧ ∀ j, x ≤ j → j < x + m → cross o (Ep a j) (Eq' a j) ≤ d) ∧ ((∀ j, x ≤ j → j < x + m → cross o (Ep a j) (Eq' a j) = 0) → d = 0)
  | 0, x, acc, _ => ⟨0, by unfold areaS; simp, fun _ => ⟨Int.le_refl _, fun j h1 h2 => by omega⟩, fun _ => rfl⟩
  | m + 1, x, acc, hx => by
    obtain ⟨d, h1, h2, h3⟩ := areaS_fan a o hn m (x + 1) (acc + term (Ep a x) (Eq' a x)) (by omega)
    have ex : Ep a x = a.getD (x % a.length) default := by rw [Nat.mod_eq_of_lt (by omega)]
    refine ⟨d + cross o (Ep a x) (Eq' a x), ?_, fun h => ?_, fun h => ?_⟩
    · unfold areaS
      rw [h1, term_cross o (Ep a x) (Eq' a x), ex, show x + 1 + m = x + (m + 1) by omega]
      show _ = _
      have : Eq' a x = a.getD ((x + 1) % a.length) default := rfl
      rw [this]
      omega
    · have h0 := h x (by omega) (by omega)
      have k := h2 (fun j h4 h5 => h j (by omega) (by omega))
      refine ⟨by omega, fun j h4 h5 => ?_⟩
      by_cases e : j = x
      · subst e; omega
      · have := k.2 j (by omega) (by omega); omega
    · rw [h3 (fun j h4 h5 => h j (by omega) (by omega)), h x (by omega) (by omega)]; rfl
theorem cross_rot (a b c : Point) : cross a b c = cross b c a := by unfold cross; grind
theorem cvx_area {H : List Point} (hc : Cvx H) : 0 < area H := by
  have hn := hc.n3
  obtain ⟨d, h1, h2, _⟩ := areaS_fan H (Ep H 0) (by omega) H.length 0 0 (by omega)
  have k := h2 (fun j _ hj => by rw [cross_rot]; exact hc.lf j (by omega) _ (getD_mem' (by omega)))
  have t := hc.tn 0 (by omega)
  have e1 : Eq' H 0 = Ep H 1 := by show H.getD ((0 + 1) % H.length) default = _; rw [Nat.mod_eq_of_lt (by omega)]
  have e2 : Ep H ((0 + 2) % H.length) = Eq' H 1 := rfl
  rw [e1, e2] at t
  have := k.2 1 (by omega) (by omega)
  unfold area
  rw [h1]
  simp only [Nat.zero_add, Nat.mod_self, Nat.zero_mod]
  omega
theorem cvx_chk {H : List Point} (hc : Cvx H) (hl : H.length ≤ 32) : chk H = 0 := by
  have hn := hc.n3
  have ha := cvx_area hc
  have hr : H.all inRange = true := List.all_eq_true.2 fun p hp => inRange_iff.2 (hc.rg p hp)
  unfold chk
  rw [decide_eq_false (show ¬ ((H.length : Nat) : Int) < 3 by omega), decide_eq_false (show ¬ ((H.length : Nat) : Int) > 32 by omega), hr, show (area H == 0) = false by rw [beq_eq_false_iff_ne]; omega]
  rfl
end Saw
end Go.SL

namespace Go.SL
namespace Saw

/-- The corner behind, and the edge that ends at a corner. -/
theorem prev_ix {H : List Point} {j : Nat} (hj : j < H.length) : ∃ i, i < H.length ∧ Eq' H i = Ep H j ∧ (i + 2) % H.length = (j + 1) % H.length := by
  by_cases h : j = 0
  · subst h
    refine ⟨H.length - 1, by omega, ?_, ?_⟩
    · show H.getD ((H.length - 1 + 1) % H.length) default = _
      rw [show H.length - 1 + 1 = H.length by omega, Nat.mod_self]
    · rw [show H.length - 1 + 2 = H.length + 1 by omega, Nat.add_mod_left]
  · refine ⟨j - 1, by omega, ?_, by rw [show j - 1 + 2 = j + 1 by omega]⟩
    show H.getD ((j - 1 + 1) % H.length) default = _
    rw [show j - 1 + 1 = j by omega, Nat.mod_eq_of_lt hj]
theorem col_id1 (p q w z : Point) : (q.Y - p.Y) * cross w z p = -((w.Y - p.Y) * ((z.X - w.X) * (q.Y - p.Y) - (q.X - p.X) * (z.Y - w.Y)) + cross p q w * (z.Y - w.Y)) := by unfold cross; grind
theorem col_id2 (p q w z : Point) : (q.Y - p.Y) * cross w z q = (q.Y - w.Y) * ((z.X - w.X) * (q.Y - p.Y) - (q.X - p.X) * (z.Y - w.Y)) - cross p q w * (z.Y - w.Y) := by unfold cross; grind
theorem col_id3 (p q w z : Point) : (q.Y - p.Y) * cross z w p = -((w.Y - p.Y) * ((w.X - z.X) * (q.Y - p.Y) - (q.X - p.X) * (w.Y - z.Y)) + cross p q w * (w.Y - z.Y)) := by unfold cross; grind
theorem col_id4 (p q w z : Point) : (q.Y - p.Y) * cross z w q = (q.Y - w.Y) * ((w.X - z.X) * (q.Y - p.Y) - (q.X - p.X) * (w.Y - z.Y)) - cross p q w * (w.Y - z.Y) := by unfold cross; grind
theorem col_id5 (p q w z y : Point) : (q.Y - p.Y) * cross z w y = (y.Y - w.Y) * ((w.X - z.X) * (q.Y - p.Y) - (q.X - p.X) * (w.Y - z.Y)) - (w.Y - z.Y) * ((y.X - w.X) * (q.Y - p.Y) - (q.X - p.X) * (y.Y - w.Y)) := by unfold cross; grind
theorem sign_zero {a b E : Int} (ha : 0 < a) (hb : 0 < b) (h1 : 0 ≤ -(a * E)) (h2 : 0 ≤ b * E) : E = 0 := by
  rcases Int.lt_trichotomy E 0 with h | h | h
  · have := Int.mul_pos hb (show 0 < -E by omega); rw [Int.mul_neg] at this; omega
  · exact h
  · have := Int.mul_pos ha h; omega
/-- A corner strictly within an edge can't turn. -/
theorem col_within {p q w wn wp : Point} (h0 : cross p q w = 0) (h1 : p.Y < w.Y) (h2 : w.Y < q.Y) (a1 : 0 ≤ cross w wn p) (a2 : 0 ≤ cross w wn q) (b1 : 0 ≤ cross wp w p) (b2 : 0 ≤ cross wp w q) (t : 0 < cross wp w wn) : False := by
  have d : 0 ≤ q.Y - p.Y := by omega
  have i1 := col_id1 p q w wn
  have i2 := col_id2 p q w wn
  have i3 := col_id3 p q w wp
  have i4 := col_id4 p q w wp
  have i5 := col_id5 p q w wp wn
  rw [h0, Int.zero_mul] at i1 i2 i3 i4
  have m1 := Int.mul_nonneg d a1
  have m2 := Int.mul_nonneg d a2
  have m3 := Int.mul_nonneg d b1
  have m4 := Int.mul_nonneg d b2
  have m5 := Int.mul_pos (show 0 < q.Y - p.Y by omega) t
  have E := sign_zero (a := w.Y - p.Y) (b := q.Y - w.Y) (E := (wn.X - w.X) * (q.Y - p.Y) - (q.X - p.X) * (wn.Y - w.Y)) (by omega) (by omega) (by omega) (by omega)
  have F := sign_zero (a := w.Y - p.Y) (b := q.Y - w.Y) (E := (w.X - wp.X) * (q.Y - p.Y) - (q.X - p.X) * (w.Y - wp.Y)) (by omega) (by omega) (by omega) (by omega)
  rw [E, F] at i5
  simp at i5
  omega
/-- Only the two ends of an edge that goes up lie on its line. -/
theorem col_corner {H : List Point} (hc : Cvx H) {j : Nat} (hj : j < H.length) (hup : (Ep H j).Y < (Eq' H j).Y) {w : Point} (hw : w ∈ H) (h0 : cross (Ep H j) (Eq' H j) w = 0) : w.Y = (Ep H j).Y ∨ w.Y = (Eq' H j).Y := by
  have hn := hc.n3
  have hj1 : (j + 1) % H.length < H.length := Nat.mod_lt _ (by omega)
  -- the next edge
  have t1 := hc.tn j hj
  have l1 := hc.lf _ hj1 w hw
  have i1 := nxt_ix hc hj
  rw [i1.1, i1.2] at l1
  -- the edge before
  obtain ⟨i, hi, e1, e2⟩ := prev_ix hj
  have t2 := hc.tn i hi
  have l2 := hc.lf i hi w hw
  rw [e1, e2] at t2
  rw [e1] at l2
  -- w's own edges
  obtain ⟨m, hm, ew⟩ := mem_ix hw
  obtain ⟨k, hk, f1, f2⟩ := prev_ix hm
  have t3 := hc.tn k hk
  rw [f1, f2, ew] at t3
  have pm : Ep H j ∈ H := getD_mem' hj
  have qm : Eq' H j ∈ H := getD_mem' hj1
  have a1 := hc.lf m hm _ pm
  have a2 := hc.lf m hm _ qm
  have b1 := hc.lf k hk _ pm
  have b2 := hc.lf k hk _ qm
  rw [ew] at a1 a2
  rw [f1, ew] at b1 b2
  have eqm : Ep H ((m + 1) % H.length) = Eq' H m := rfl
  rw [eqm] at t3
  have eqj : Ep H ((j + 1) % H.length) = Eq' H j := rfl
  rw [eqj] at t2
  generalize Ep H j = p at *
  generalize Eq' H j = q at *
  generalize Ep H ((j + 2) % H.length) = r at *
  generalize Ep H i = o at *
  generalize Eq' H m = wn at *
  generalize Ep H k = wp at *
  have d : 0 < q.Y - p.Y := by omega
  have id1 : (q.Y - p.Y) * cross q r w = (q.Y - w.Y) * cross p q r + (r.Y - q.Y) * cross p q w := by unfold cross; grind
  have id2 : (q.Y - p.Y) * cross o p w = (w.Y - p.Y) * cross o p q + (p.Y - o.Y) * cross p q w := by unfold cross; grind
  rw [h0] at id1 id2
  simp only [Int.mul_zero, Int.add_zero] at id1 id2
  have g1 : w.Y ≤ q.Y := by
    refine Classical.byContradiction fun hn' => ?_
    have x1 := Int.mul_nonneg (Int.le_of_lt d) l1
    have x2 := Int.mul_pos (show 0 < -(q.Y - w.Y) by omega) t1
    rw [Int.neg_mul] at x2
    omega
  have g2 : p.Y ≤ w.Y := by
    refine Classical.byContradiction fun hn' => ?_
    have x1 := Int.mul_nonneg (Int.le_of_lt d) l2
    have x2 := Int.mul_pos (show 0 < -(w.Y - p.Y) by omega) t2
    rw [Int.neg_mul] at x2
    omega
  refine Classical.byContradiction fun hn' => ?_
  rw [not_or] at hn'
  exact col_within h0 (by omega) (by omega) a1 a2 b1 b2 t3
theorem same_pt {p q w v : Point} (hY : p.Y < q.Y) (h1 : cross p q w = 0) (h2 : cross p q v = 0) (h3 : w.Y = v.Y) : w = v := by
  have e : (q.Y - p.Y) * (w.X - v.X) = 0 := by
    have : (q.Y - p.Y) * (w.X - v.X) = cross p q v - cross p q w + (q.X - p.X) * (w.Y - v.Y) := by unfold cross; grind
    rw [this, h1, h2, h3]; simp
  rcases Int.mul_eq_zero.1 e with h | h
  · omega
  · cases w; cases v
    simp only [Point.mk.injEq]
    simp only at h h3
    omega
theorem up_id (a b c d : Point) (t : Int) : ((d.Y - t) * cross a b c + (t - c.Y) * cross a b d) + ((b.Y - t) * cross c d a + (t - a.Y) * cross c d b) = 0 := by unfold cross; grind
theorem nodup_ix {H : List Point} (hd : H.Nodup) {j k : Nat} (hj : j < H.length) (hk : k < H.length) (h : Ep H j = Ep H k) : j = k := by
  have e1 : H[j] = H[k] := by rw [← getD_el' hj, ← getD_el' hk]; exact h
  rcases Nat.lt_trichotomy j k with hlt | heq | hlt
  · exact absurd e1 (List.pairwise_iff_getElem.1 hd j k hj hk hlt)
  · exact heq
  · exact absurd e1.symm (List.pairwise_iff_getElem.1 hd k j hk hj hlt)
/-- Two edges that go up over the same unit of height are one. -/
theorem up_one {H : List Point} (hc : Cvx H) (hd : H.Nodup) {j k : Nat} (hj : j < H.length) (hk : k < H.length) {t : Int} (j1 : (Ep H j).Y ≤ t) (j2 : t + 1 ≤ (Eq' H j).Y) (k1 : (Ep H k).Y ≤ t) (k2 : t + 1 ≤ (Eq' H k).Y) : j = k := by
  have hn := hc.n3
  have pm : ∀ i, i < H.length → Ep H i ∈ H := fun i hi => getD_mem' hi
  have qm : ∀ i, Eq' H i ∈ H := fun i => getD_mem' (Nat.mod_lt _ (by omega))
  have A1 := hc.lf j hj _ (pm k hk)
  have A2 := hc.lf j hj _ (qm k)
  have B1 := hc.lf k hk _ (pm j hj)
  have B2 := hc.lf k hk _ (qm j)
  have zero : ∀ s, (Ep H j).Y ≤ s → s ≤ (Eq' H j).Y → (Ep H k).Y ≤ s → s ≤ (Eq' H k).Y → ((Eq' H k).Y - s) * cross (Ep H j) (Eq' H j) (Ep H k) + (s - (Ep H k).Y) * cross (Ep H j) (Eq' H j) (Eq' H k) = 0 := fun s s1 s2 s3 s4 => by
    have e := up_id (Ep H j) (Eq' H j) (Ep H k) (Eq' H k) s
    have x1 := Int.mul_nonneg (show 0 ≤ (Eq' H k).Y - s by omega) A1
    have x2 := Int.mul_nonneg (show 0 ≤ s - (Ep H k).Y by omega) A2
    have x3 := Int.mul_nonneg (show 0 ≤ (Eq' H j).Y - s by omega) B1
    have x4 := Int.mul_nonneg (show 0 ≤ s - (Ep H j).Y by omega) B2
    omega
  have z1 := zero t (by omega) (by omega) (by omega) (by omega)
  have z2 := zero (t + 1) (by omega) (by omega) (by omega) (by omega)
  have c1 : cross (Ep H j) (Eq' H j) (Ep H k) = 0 := by
    have x1 := Int.mul_nonneg (show 0 ≤ (Eq' H k).Y - t by omega) A1
    have x2 := Int.mul_nonneg (show 0 ≤ t - (Ep H k).Y by omega) A2
    rcases Int.mul_eq_zero.1 (show ((Eq' H k).Y - t) * cross (Ep H j) (Eq' H j) (Ep H k) = 0 by omega) with h | h
    · omega
    · exact h
  have c2 : cross (Ep H j) (Eq' H j) (Eq' H k) = 0 := by
    have x1 := Int.mul_nonneg (show 0 ≤ (Eq' H k).Y - (t + 1) by omega) A1
    have x2 := Int.mul_nonneg (show 0 ≤ t + 1 - (Ep H k).Y by omega) A2
    rcases Int.mul_eq_zero.1 (show (t + 1 - (Ep H k).Y) * cross (Ep H j) (Eq' H j) (Eq' H k) = 0 by omega) with h | h
    · omega
    · exact h
  have y1 := col_corner hc hj (by omega) (pm k hk) c1
  have y2 := col_corner hc hj (by omega) (qm k) c2
  have e := same_pt (p := Ep H j) (q := Eq' H j) (w := Ep H k) (v := Ep H j) (by omega) c1 (cross_self_l _ _) (by omega)
  exact (nodup_ix hd hk hj e).symm
theorem cvx_ng {H : List Point} (hc : Cvx H) : Cvx (H.map ng) := by
  have hn := hc.n3
  have ix : ∀ i, Ep (H.map ng) i = ng (Ep H i) := fun i => by
    show (H.map ng).getD i default = ng (H.getD i default)
    by_cases hi : i < H.length
    · exact getD_map ng H hi
    · rw [List.getD_eq_getElem?_getD, List.getD_eq_getElem?_getD, List.getElem?_eq_none (by simpa using hi), List.getElem?_eq_none (by omega)]; rfl
  have ix2 : ∀ i, Eq' (H.map ng) i = ng (Eq' H i) := fun i => by
    show (H.map ng).getD ((i + 1) % (H.map ng).length) default = _
    rw [List.length_map]; exact ix _
  refine ⟨by simpa using hn, fun p hp => ?_, fun x hx p hp => ?_, fun x hx => ?_⟩
  · obtain ⟨q, hq, rfl⟩ := List.mem_map.1 hp
    have := hc.rg q hq
    unfold ng rng at *
    simp only
    omega
  · obtain ⟨q, hq, rfl⟩ := List.mem_map.1 hp
    rw [ix, ix2, cross_ng]
    exact hc.lf x (by simpa using hx) q hq
  · rw [ix, ix2, List.length_map, ix, cross_ng]
    exact hc.tn x (by simpa using hx)
theorem ep_ng (H : List Point) (i : Nat) : Ep (H.map ng) i = ng (Ep H i) := by
  show (H.map ng).getD i default = ng (H.getD i default)
  by_cases hi : i < H.length
  · exact getD_map ng H hi
  · rw [List.getD_eq_getElem?_getD, List.getD_eq_getElem?_getD, List.getElem?_eq_none (by simpa using hi), List.getElem?_eq_none (by omega)]; rfl
theorem eq_ng (H : List Point) (i : Nat) : Eq' (H.map ng) i = ng (Eq' H i) := by
  show (H.map ng).getD ((i + 1) % (H.map ng).length) default = _
  rw [List.length_map]; exact ep_ng H _
theorem nodup_ng {H : List Point} (hd : H.Nodup) : (H.map ng).Nodup := by
  rw [List.Nodup, List.pairwise_map]
  exact hd.imp (fun h e => h (by have := congrArg ng e; rwa [ng_ng, ng_ng] at this))
/-- Two edges that go down over the same unit of height are one. -/
theorem dn_one {H : List Point} (hc : Cvx H) (hd : H.Nodup) {j k : Nat} (hj : j < H.length) (hk : k < H.length) {t : Int} (j1 : (Eq' H j).Y ≤ t) (j2 : t + 1 ≤ (Ep H j).Y) (k1 : (Eq' H k).Y ≤ t) (k2 : t + 1 ≤ (Ep H k).Y) : j = k := by
  have ny : ∀ p : Point, (ng p).Y = -p.Y := fun _ => rfl
  refine up_one (cvx_ng hc) (nodup_ng hd) (by simpa using hj) (by simpa using hk) (t := -(t + 1)) ?_ ?_ ?_ ?_
  · rw [ep_ng, ny]; omega
  · rw [eq_ng, ny]; omega
  · rw [ep_ng, ny]; omega
  · rw [eq_ng, ny]; omega
/-- Between a corner at most as high and a higher one some edge goes up, and some edge goes down. -/
theorem half_ex {H : List Point} {y : Int} {p q : Point} (hp : p ∈ H) (hq : q ∈ H) (h1 : p.Y ≤ y) (h2 : y < q.Y) : (∃ j, j < H.length ∧ (Ep H j).Y ≤ y ∧ y < (Eq' H j).Y) ∧ (∃ j, j < H.length ∧ (Eq' H j).Y ≤ y ∧ y < (Ep H j).Y) := by
  obtain ⟨i, hi, ei⟩ := mem_ix hp
  obtain ⟨k, hk, ek⟩ := mem_ix hq
  constructor
  · refine Classical.byContradiction fun hno => ?_
    have := cyc_all (P := fun x => (Ep H x).Y ≤ y) hi (by rw [ei]; exact h1) (fun x hx h => Classical.byContradiction fun h' => hno ⟨x, hx, h, by
      have : (Ep H ((x + 1) % H.length)).Y = (Eq' H x).Y := rfl
      omega⟩)
    have := this k hk
    rw [ek] at this
    omega
  · refine Classical.byContradiction fun hno => ?_
    have := cyc_all (P := fun x => y < (Ep H x).Y) hk (by rw [ek]; exact h2) (fun x hx h => Classical.byContradiction fun h' => hno ⟨x, hx, by
      have : (Ep H ((x + 1) % H.length)).Y = (Eq' H x).Y := rfl
      omega, h⟩)
    have := this i hi
    rw [ei] at this
    omega
end Saw
end Go.SL
