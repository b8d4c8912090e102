/- Poly's plain mathematics, part 28: both chords. -/
import Derived.Test.YtcppgjcniljkcaaDoorPMath27
set_option linter.unusedVariables false
set_option linter.unusedSimpArgs false
namespace Go.SL
namespace Saw

/-- The least and the greatest X at a height, as the program's loop gives them. -/
def atS (H : List Point) (y : Int) : Int × Int := pS H y 0 H.length ((bounds H).X.A, (bounds H).X.B)
theorem cross_flat {p q : Point} (h1 : ¬ p.Y < q.Y) (h2 : ¬ q.Y < p.Y) (X y : Int) : cross p q ⟨X, y⟩ = (q.X - p.X) * (y - p.Y) := by
  have e : q.Y - p.Y = 0 := by omega
  unfold cross
  rw [e]
  simp
theorem rS_none {H : List Point} (hc : Cvx H) {y : Int} (hy : (∀ p ∈ H, y < p.Y) ∨ (∀ p ∈ H, p.Y < y)) : ∃ r : Int × Int, (rS H y 0 H.length (-600, 600) = .inl r ∨ rS H y 0 H.length (-600, 600) = .inr r) ∧ r.2 < r.1 := by
  rcases rS_spec H y H.length 0 (-600, 600) with ⟨_, e⟩ | ⟨nb, r', e, g1, g2⟩
  · exact ⟨(1, 0), .inl e, by decide⟩
  · refine ⟨r', .inr e, Classical.byContradiction fun hn => ?_⟩
    have k1 := (g1 r'.1).1 (Int.le_refl _)
    have k2 := (g2 r'.1).1 (by omega)
    refine out_none hc hy (fun j hj => nb j (by omega) (by omega)) r'.1 (fun j hj => ?_)
    by_cases c1 : (Ep H j).Y < (Eq' H j).Y
    · exact (upB_iff c1 _ _).1 (k2.2 j (by omega) (by omega) c1)
    · by_cases c2 : (Eq' H j).Y < (Ep H j).Y
      · exact (dnB_iff c2 _ _).1 (k1.2 j (by omega) (by omega) c2)
      · have := nb j (by omega) (by omega)
        rw [cross_flat c1 c2]
        refine Classical.byContradiction fun h => this ⟨c1, c2, by omega⟩
theorem at_iff {H : List Point} (hc : Cvx H) {lo hi : Int} (hb : YB H lo hi) {y : Int} (h1 : lo ≤ y) (h2 : y ≤ hi) (X : Int) : ((atS H y).1 ≤ X ∧ X ≤ (atS H y).2) ↔ inH H X y := by
  obtain ⟨p, hp, ep⟩ := hb.lo
  obtain ⟨q, hq, eq⟩ := hb.hi
  have be := both_eq hc hp hq (show p.Y ≤ y by omega) (show y ≤ q.Y by omega) ((bounds H).X.A, (bounds H).X.B)
  rcases rS_spec H y H.length 0 (-600, 600) with ⟨_, e⟩ | ⟨nb, r', e, g1, g2⟩
  · rw [be] at e; cases e
  · rw [be] at e
    have e' : atS H y = r' := Sum.inr.inj e
    rw [e', g1 X, g2 X]
    constructor
    · rintro ⟨⟨_, k1⟩, _, k2⟩ j hj
      by_cases c1 : (Ep H j).Y < (Eq' H j).Y
      · exact (upB_iff c1 _ _).1 (k2 j (by omega) (by omega) c1)
      · by_cases c2 : (Eq' H j).Y < (Ep H j).Y
        · exact (dnB_iff c2 _ _).1 (k1 j (by omega) (by omega) c2)
        · have := nb j (by omega) (by omega)
          rw [cross_flat c1 c2]
          refine Classical.byContradiction fun h => this ⟨c1, c2, by omega⟩
    · intro hin
      have hn := hc.n3
      have mq : ∀ j, Eq' H j ∈ H := fun j => getD_mem' (Nat.mod_lt _ (by omega))
      have mp : ∀ j, j < H.length → Ep H j ∈ H := fun j hj => getD_mem' hj
      obtain ⟨u, hu, su⟩ := span_up hc hp hq (show p.Y ≤ y by omega) (show y ≤ q.Y by omega)
      obtain ⟨d, hd, sd⟩ := span_dn hc hp hq (show p.Y ≤ y by omega) (show y ≤ q.Y by omega)
      have b1 := upB_le (hc.rg _ (mp u hu)) (hc.rg _ (mq u)) su
      have b2 := dnB_ge (hc.rg _ (mp d hd)) (hc.rg _ (mq d)) sd
      have b3 := (upB_iff su.1 X y).2 (hin u hu)
      have b4 := (dnB_iff sd.1 X y).2 (hin d hd)
      exact ⟨⟨by show -600 ≤ X; omega, fun j j1 j2 j3 => (dnB_iff j3 X y).2 (hin j (by omega))⟩, by show X ≤ 600; omega, fun j j1 j2 j3 => (upB_iff j3 X y).2 (hin j (by omega))⟩
theorem in_YB {H : List Point} (hc : Cvx H) {lo hi : Int} (hb : YB H lo hi) {X y : Int} (h : inH H X y) : lo ≤ y ∧ y ≤ hi := by
  have nb : ∀ j, j < H.length → ¬ bad (Ep H j) (Eq' H j) y := fun j hj hb => by
    have := h j hj
    rw [cross_flat hb.1 hb.2.1] at this
    have := hb.2.2
    omega
  refine ⟨Classical.byContradiction fun hn => ?_, Classical.byContradiction fun hn => ?_⟩
  · exact out_none hc (.inl fun p hp => by have := (hb.all p hp).1; omega) nb X h
  · exact out_none hc (.inr fun p hp => by have := (hb.all p hp).2; omega) nb X h

def chord (a : List Point) (lo hi : Int) : Span :=
  if hull a = [] ∨ hi ≤ lo ∨ lo < (bounds (hull a)).Y.A ∨ (bounds (hull a)).Y.B < hi then ⟨0, 0⟩
  else if imin (atS (hull a) lo).2 (atS (hull a) hi).2 ≤ imax (atS (hull a) lo).1 (atS (hull a) hi).1 then ⟨0, 0⟩
  else ⟨imax (atS (hull a) lo).1 (atS (hull a) hi).1, imin (atS (hull a) lo).2 (atS (hull a) hi).2⟩
theorem YB.rg {H : List Point} {lo hi : Int} (hb : YB H lo hi) (hr : ∀ p ∈ H, rng p) : -600 ≤ lo ∧ hi ≤ 600 := by
  obtain ⟨p, hp, ep⟩ := hb.lo
  obtain ⟨q, hq, eq⟩ := hb.hi
  have h1 := hr p hp
  have h2 := hr q hq
  omega
theorem hull_len32 (a : List Point) : (hull a).length ≤ 64 := by
  by_cases h : hull a = []
  · rw [h]; simp
  · have := (hull_of h).1
    have := hull_len a
    omega
theorem chord_1 {H : List Point} (hr : ∀ p ∈ H, rng p) {y : Int} (hy : -600 ≤ y ∧ y ≤ 600) (hl : H.length ≤ 64) : poly_Chord_1 y (bounds H) H = some (atS H y) := by
  have := chord_loop H y hr hy (by omega) H.length FUEL 0 ((bounds H).X.A, (bounds H).X.B) (by omega) (by rw [FUEL_eq]; omega)
  unfold poly_Chord_1
  rw [show ((0 : Nat) : Int) = 0 from rfl] at this
  simp only at this
  rw [this]
  rfl
theorem polyChord_eq (a : List Point) (lo hi : Int) : poly_Chord a lo hi = some (chord a lo hi) := by
  have hl := hull_len32 a
  unfold poly_Chord poly_Chord_k1 chord
  rw [polyHull_eq]
  simp only [Option.bind_some, (bounds_eq (hull a) (by omega)).1]
  by_cases h0 : hull a = []
  · rw [h0]; simp
  have e0 : ((((hull a).length : Nat) : Int) == 0) = false := by
    have : 0 < (hull a).length := List.length_pos_iff.2 h0
    rw [beq_eq_false_iff_ne]; omega
  have hb := bounds_YB h0
  have hbr := hb.rg (fun p hp => hull_rng hp)
  rw [e0]
  by_cases h1 : hi ≤ lo
  · rw [decide_eq_true (show lo ≥ hi from h1), if_pos (.inr (.inl h1))]; rfl
  rw [decide_eq_false (show ¬ lo ≥ hi from h1)]
  by_cases h2 : lo < (bounds (hull a)).Y.A
  · rw [decide_eq_true h2, if_pos (.inr (.inr (.inl h2)))]; rfl
  rw [decide_eq_false h2]
  by_cases h3 : (bounds (hull a)).Y.B < hi
  · rw [decide_eq_true (show hi > (bounds (hull a)).Y.B from h3), if_pos (.inr (.inr (.inr h3)))]; rfl
  rw [decide_eq_false (show ¬ hi > (bounds (hull a)).Y.B from h3), if_neg (by simp only [h0, false_or]; omega)]
  rw [chord_1 (fun p hp => hull_rng hp) (show -600 ≤ lo ∧ lo ≤ 600 by omega) hl, chord_1 (fun p hp => hull_rng hp) (show -600 ≤ hi ∧ hi ≤ 600 by omega) hl]
  simp only [cond_false, Option.bind_some]
  by_cases h4 : imin (atS (hull a) lo).2 (atS (hull a) hi).2 ≤ imax (atS (hull a) lo).1 (atS (hull a) hi).1
  · rw [decide_eq_true (show _ ≥ _ from h4), if_pos h4]; rfl
  · rw [decide_eq_false (show ¬ _ ≥ _ from h4), if_neg h4]; rfl
theorem across_eq {H : List Point} (hr : ∀ p ∈ H, rng p) {y : Int} (hy : -600 ≤ y ∧ y ≤ 600) (hl : H.length ≤ 64) : ∀ r, (rS H y 0 H.length (-600, 600) = .inl r ∨ rS H y 0 H.length (-600, 600) = .inr r) → ref09_across H y = some r := by
  intro r h
  have := across_loop H y hr hy (by omega) H.length FUEL 0 (-600) 600 (by omega) (by rw [FUEL_eq]; omega)
  unfold ref09_across
  rw [show ((0 : Nat) : Int) = 0 from rfl] at this
  rw [this]
  rcases h with h | h <;> rw [h] <;> rfl
theorem refChord_eq (a : List Point) (lo hi : Int) : ref09_Chord a lo hi = some (chord a lo hi) := by
  have hl := hull_len32 a
  unfold ref09_Chord ref09_Chord_k1 chord
  rw [refHull_eq]
  simp only [Option.bind_some]
  by_cases h0 : hull a = []
  · rw [h0]; simp
  have e0 : ((((hull a).length : Nat) : Int) == 0) = false := by
    have : 0 < (hull a).length := List.length_pos_iff.2 h0
    rw [beq_eq_false_iff_ne]; omega
  have hb := bounds_YB h0
  have hbr := hb.rg (fun p hp => hull_rng hp)
  have hc := hull_cvx h0
  rw [e0]
  by_cases h1 : hi ≤ lo
  · rw [decide_eq_true (show lo ≥ hi from h1), if_pos (.inr (.inl h1))]; rfl
  rw [decide_eq_false (show ¬ lo ≥ hi from h1)]
  by_cases h2 : lo < -600
  · rw [decide_eq_true h2, if_pos (.inr (.inr (.inl (by omega))))]; rfl
  rw [decide_eq_false h2]
  by_cases h3 : 600 < hi
  · rw [decide_eq_true (show hi > 600 from h3), if_pos (.inr (.inr (.inr (by omega))))]; rfl
  rw [decide_eq_false (show ¬ hi > 600 from h3)]
  simp only [cond_false]
  have some_r : ∀ y, ∃ r, (rS (hull a) y 0 (hull a).length (-600, 600) = .inl r ∨ rS (hull a) y 0 (hull a).length (-600, 600) = .inr r) := fun y => by
    cases h : rS (hull a) y 0 (hull a).length (-600, 600) with
    | inl r => exact ⟨r, .inl rfl⟩
    | inr r => exact ⟨r, .inr rfl⟩
  have inner : ∀ y, (bounds (hull a)).Y.A ≤ y → y ≤ (bounds (hull a)).Y.B → ref09_across (hull a) y = some (atS (hull a) y) := fun y y1 y2 => by
    obtain ⟨p, hp, ep⟩ := hb.lo
    obtain ⟨q, hq, eq⟩ := hb.hi
    exact across_eq (fun p hp => hull_rng hp) (by omega) hl _ (.inr (both_eq hc hp hq (by omega) (by omega) _))
  by_cases h4 : lo < (bounds (hull a)).Y.A
  · rw [if_pos (.inr (.inr (.inl h4)))]
    obtain ⟨r, hr, hlt⟩ := rS_none hc (y := lo) (.inl fun p hp => by have := (hb.all p hp).1; omega)
    obtain ⟨r2, hr2⟩ := some_r hi
    rw [across_eq (fun p hp => hull_rng hp) (by omega) hl _ hr, across_eq (fun p hp => hull_rng hp) (by omega) hl _ hr2]
    simp only [Option.bind_some]
    rw [decide_eq_true (show r.1 > r.2 from hlt)]
    rfl
  by_cases h5 : (bounds (hull a)).Y.B < hi
  · rw [if_pos (.inr (.inr (.inr h5)))]
    obtain ⟨r2, hr2, hlt⟩ := rS_none hc (y := hi) (.inr fun p hp => by have := (hb.all p hp).2; omega)
    obtain ⟨r, hr⟩ := some_r lo
    rw [across_eq (fun p hp => hull_rng hp) (by omega) hl _ hr, across_eq (fun p hp => hull_rng hp) (by omega) hl _ hr2]
    simp only [Option.bind_some]
    rw [decide_eq_true (show r2.1 > r2.2 from hlt)]
    cases decide (r.1 > r.2) <;> rfl
  rw [if_neg (by simp only [h0, false_or]; omega), inner lo (by omega) (by omega), inner hi (by omega) (by omega)]
  simp only [Option.bind_some, ref09_Chord_k2]
  have i1 : ∀ a b : Int, imin a b ≤ a ∧ imin a b ≤ b := fun a b => by unfold imin; split <;> omega
  have i2 : ∀ a b : Int, a ≤ imax a b ∧ b ≤ imax a b := fun a b => by unfold imax; split <;> omega
  have m1 := i1 (atS (hull a) lo).2 (atS (hull a) hi).2
  have m2 := i2 (atS (hull a) lo).1 (atS (hull a) hi).1
  by_cases h6 : (atS (hull a) lo).1 > (atS (hull a) lo).2
  · rw [decide_eq_true h6, if_pos (by omega)]; rfl
  rw [decide_eq_false h6]
  by_cases h7 : (atS (hull a) hi).1 > (atS (hull a) hi).2
  · rw [decide_eq_true h7, if_pos (by omega)]; rfl
  rw [decide_eq_false h7]
  by_cases h8 : imin (atS (hull a) lo).2 (atS (hull a) hi).2 ≤ imax (atS (hull a) lo).1 (atS (hull a) hi).1
  · rw [decide_eq_true (show _ ≥ _ from h8), if_pos h8]; rfl
  · rw [decide_eq_false (show ¬ _ ≥ _ from h8), if_neg h8]; rfl
theorem PolyChords_true (a : List Point) (lo hi : Int) (_ : a.length ≤ maxLen ∧ ∀ p ∈ a, i64ok p.X ∧ i64ok p.Y) (_ : i64ok lo) (_ : i64ok hi) : law09_PolyChords a lo hi = some true := by
  unfold law09_PolyChords law09_few
  simp only [Option.bind_some]
  by_cases h : ((a.length : Nat) : Int) ≤ 100
  · rw [decide_eq_true h]
    simp [polyChord_eq, refChord_eq, awake_true, law09_PolyChords_k1]
  · rw [decide_eq_false h]
    simp only [Bool.not_false, cond_true, awake_true, Option.bind_some]
end Saw
end Go.SL
