/- Poly's plain mathematics, part 27: the hull as a convex polygon; what the chord is. -/
import Derived.Test.YtcppgjcniljkcaaDoorPMath26
set_option linter.unusedVariables false
set_option linter.unusedSimpArgs false
namespace Go.SL
namespace Saw

theorem hull_of {a : List Point} (h : hull a ≠ []) : a.length ≤ 32 ∧ a.all inRange = true ∧ hull a = hullOf (srt a) ∧ ¬ (chainR (srt a)).length + (chainR (srt a).reverse).length < 5 := by
  unfold hull at h ⊢
  by_cases h1 : ((a.length : Nat) : Int) > 32
  · rw [decide_eq_true h1] at h; exact absurd rfl h
  · rw [decide_eq_false h1] at h ⊢
    cases hr : a.all inRange with
    | false => rw [hr] at h; exact absurd rfl h
    | true =>
      rw [hr] at h
      simp only [cond_false, cond_true] at h ⊢
      refine ⟨by omega, trivial, trivial, fun h5 => h ?_⟩
      unfold hullOf
      rw [if_pos h5]
theorem hull_mem {a : List Point} {p : Point} (hp : p ∈ hull a) : p ∈ a := by
  have h : hull a ≠ [] := fun e => by rw [e] at hp; cases hp
  obtain ⟨_, _, e, h5⟩ := hull_of h
  rw [e] at hp
  exact (srt_mem a p).1 ((hull_left (srt_strict a) h5).2.1 p hp)
theorem hull_lf {a : List Point} {x : Nat} (hx : x < (hull a).length) {p : Point} (hp : p ∈ a) : 0 ≤ cross (Ep (hull a) x) (Eq' (hull a) x) p := by
  have h : hull a ≠ [] := fun e => by rw [e] at hx; simp at hx
  obtain ⟨_, _, e, h5⟩ := hull_of h
  rw [e] at hx ⊢
  exact (hull_left (srt_strict a) h5).2.2 x hx p ((srt_mem a p).2 hp)
theorem hull_rng {a : List Point} {p : Point} (hp : p ∈ hull a) : rng p := by
  have h : hull a ≠ [] := fun e => by rw [e] at hp; cases hp
  obtain ⟨_, hr, _, _⟩ := hull_of h
  exact inRange_iff.1 (List.all_eq_true.1 hr p (hull_mem hp))
theorem hull_cvx {a : List Point} (h : hull a ≠ []) : Cvx (hull a) := by
  obtain ⟨_, _, e, h5⟩ := hull_of h
  refine ⟨by rw [e]; exact (hull_left (srt_strict a) h5).1, fun p hp => hull_rng hp, fun x hx p hp => hull_lf hx (hull_mem hp), fun x hx => ?_⟩
  rw [e] at hx ⊢
  exact hull_turns (srt_strict a) h5 x hx

/-- The region of a convex polygon: left of every edge. -/
def inH (H : List Point) (X y : Int) : Prop := ∀ j, j < H.length → 0 ≤ cross (Ep H j) (Eq' H j) ⟨X, y⟩

/-- The least and the greatest height of the corners. -/
structure YB (H : List Point) (l h : Int) : Prop where
  lo : ∃ p ∈ H, p.Y = l
  hi : ∃ p ∈ H, p.Y = h
  all : ∀ p ∈ H, l ≤ p.Y ∧ p.Y ≤ h
theorem bounds_fold : ∀ (l : List Point) (r : Rect), ((l.foldl bstep r).Y.A = r.Y.A ∨ ∃ p ∈ l, p.Y = (l.foldl bstep r).Y.A) ∧ ((l.foldl bstep r).Y.B = r.Y.B ∨ ∃ p ∈ l, p.Y = (l.foldl bstep r).Y.B) ∧ (l.foldl bstep r).Y.A ≤ r.Y.A ∧ r.Y.B ≤ (l.foldl bstep r).Y.B ∧ ∀ p ∈ l, (l.foldl bstep r).Y.A ≤ p.Y ∧ p.Y ≤ (l.foldl bstep r).Y.B
  | [], r => ⟨.inl rfl, .inl rfl, Int.le_refl _, Int.le_refl _, fun p hp => by cases hp⟩
  | a :: l, r => by
    obtain ⟨h1, h2, h3, h4, h5⟩ := bounds_fold l (bstep r a)
    have eA : (bstep r a).Y.A = imin r.Y.A a.Y := rfl
    have eB : (bstep r a).Y.B = imax r.Y.B a.Y := rfl
    have mA : imin r.Y.A a.Y ≤ r.Y.A ∧ imin r.Y.A a.Y ≤ a.Y ∧ (imin r.Y.A a.Y = r.Y.A ∨ imin r.Y.A a.Y = a.Y) := by unfold imin; split <;> omega
    have mB : r.Y.B ≤ imax r.Y.B a.Y ∧ a.Y ≤ imax r.Y.B a.Y ∧ (imax r.Y.B a.Y = r.Y.B ∨ imax r.Y.B a.Y = a.Y) := by unfold imax; split <;> omega
    rw [eA] at h1 h3
    rw [eB] at h2 h4
    simp only [List.foldl_cons]
    refine ⟨?_, ?_, by omega, by omega, fun p hp => ?_⟩
    · rcases h1 with h1 | ⟨p, hp, e⟩
      · rcases mA.2.2 with e | e
        · exact .inl (h1.trans e)
        · exact .inr ⟨a, by simp, by omega⟩
      · exact .inr ⟨p, List.mem_cons_of_mem _ hp, e⟩
    · rcases h2 with h2 | ⟨p, hp, e⟩
      · rcases mB.2.2 with e | e
        · exact .inl (h2.trans e)
        · exact .inr ⟨a, by simp, by omega⟩
      · exact .inr ⟨p, List.mem_cons_of_mem _ hp, e⟩
    · rcases List.mem_cons.1 hp with rfl | hp
      · omega
      · exact h5 p hp
theorem bounds_YB {H : List Point} (h : H ≠ []) : YB H (bounds H).Y.A (bounds H).Y.B := by
  cases H with
  | nil => exact absurd rfl h
  | cons a l =>
    obtain ⟨h1, h2, h3, h4, h5⟩ := bounds_fold l (Rect.mk (Span.mk a.X a.X) (Span.mk a.Y a.Y))
    unfold bounds
    simp only at h3 h4 ⊢
    refine ⟨?_, ?_, fun p hp => ?_⟩
    · rcases h1 with h1 | ⟨p, hp, e⟩
      · exact ⟨a, by simp, h1.symm⟩
      · exact ⟨p, List.mem_cons_of_mem _ hp, e⟩
    · rcases h2 with h2 | ⟨p, hp, e⟩
      · exact ⟨a, by simp, h2.symm⟩
      · exact ⟨p, List.mem_cons_of_mem _ hp, e⟩
    · rcases List.mem_cons.1 hp with rfl | hp
      · exact ⟨h3, h4⟩
      · exact h5 p hp
end Saw
end Go.SL
