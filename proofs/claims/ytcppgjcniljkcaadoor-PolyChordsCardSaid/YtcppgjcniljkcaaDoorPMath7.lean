/- Poly's plain mathematics, part 7: every point lies to the left of each edge of a chain. -/
import Derived.Test.YtcppgjcniljkcaaDoorPMath6
set_option linter.unusedVariables false
set_option linter.unusedSimpArgs false
namespace Go.SL
namespace Saw

/-- Lexicographically positive. -/
def pos (x y : Int) : Prop := 0 < x ∨ (x = 0 ∧ 0 < y)
theorem vec_trans {ux uy vx vy wx wy : Int} (hu : pos ux uy) (hv : pos vx vy) (hw : pos wx wy) (h1 : 0 ≤ ux * vy - vx * uy) (h2 : 0 ≤ vx * wy - wx * vy) : 0 ≤ ux * wy - wx * uy := by
  unfold pos at *
  have hux : 0 ≤ ux := by omega
  have hwx : 0 ≤ wx := by omega
  rcases hv with hv | ⟨hv, hvy⟩
  · have e : (ux * wy - wx * uy) * vx = (ux * vy - vx * uy) * wx + (vx * wy - wx * vy) * ux := by grind
    have h3 : 0 ≤ (ux * wy - wx * uy) * vx := by rw [e]; exact Int.add_nonneg (Int.mul_nonneg h1 hwx) (Int.mul_nonneg h2 hux)
    exact Int.nonneg_of_mul_nonneg_left h3 hv
  · subst hv
    have h4 : 0 ≤ -(wx * vy) := by simpa using h2
    have hw0 : wx = 0 := by
      rcases Int.lt_or_eq_of_le hwx with h | h
      · have := Int.mul_pos h hvy; omega
      · exact h.symm
    subst hw0
    have hwy : 0 < wy := by omega
    have := Int.mul_nonneg hux (Int.le_of_lt hwy)
    simpa using this
theorem lt_pos {p q : Point} (h : pLt p q) : pos (q.X - p.X) (q.Y - p.Y) := by unfold pLt at h; unfold pos; omega
theorem cross_self_l (p q : Point) : cross p q p = 0 := by unfold cross; grind
theorem cross_self_r (p q : Point) : cross p q q = 0 := by unfold cross; grind

/-- (b): c is right of s t, p left of it: p is left of s c. -/
theorem turn_b {s t c p : Point} (hst : pLt s t) (hsc : pLt s c) (hsp : pLt s p) (h1 : cross s t c ≤ 0) (h2 : 0 ≤ cross s t p) : 0 ≤ cross s c p := by
  unfold cross at *
  exact vec_trans (lt_pos hsc) (lt_pos hst) (lt_pos hsp) (by omega) h2
/-- (c): a left turn at t: what is left of s t and ahead of t is left of t c. -/
theorem turn_c {s t c p : Point} (hst : pLt s t) (htc : pLt t c) (hpt : pLt p t) (h1 : 0 < cross s t c) (h2 : 0 ≤ cross s t p) : 0 ≤ cross t c p := by
  have h3 := vec_trans (ux := t.X - p.X) (uy := t.Y - p.Y) (vx := t.X - s.X) (vy := t.Y - s.Y) (wx := c.X - t.X) (wy := c.Y - t.Y) (lt_pos hpt) (lt_pos hst) (lt_pos htc)
    (by unfold cross at h2; grind) (by unfold cross at h1; grind)
  unfold cross
  grind

/-- Each edge of the stack has all of these points on its left. -/
def Left (pts : List Point) : List Point → Prop
  | v :: u :: r => (∀ p ∈ pts, 0 ≤ cross u v p) ∧ Left pts (u :: r)
  | _ => True
/-- The stack turns to the left at each inner corner. -/
def Turns : List Point → Prop
  | c :: t :: s :: r => 0 < cross s t c ∧ Turns (t :: s :: r)
  | _ => True
theorem pop_left (pts : List Point) (c : Point) (hc : ∀ p ∈ pts, pLt p c) : ∀ (st : List Point), st.Pairwise (fun a b => pLt b a) → (∀ p ∈ st, p ∈ pts) → Left pts st → Turns st → (∀ t r, st = t :: r → ∀ p ∈ pts, pLt t p → 0 ≤ cross t c p) → (∀ t, st.getLast? = some t → ∀ p ∈ pts, p = t ∨ pLt t p) →
    Left pts (c :: popR st c) ∧ Turns (c :: popR st c)
  | [], _, _, _, _, _, _ => ⟨trivial, trivial⟩
  | [t], _, hm, _, _, hq, hb => by
    refine ⟨⟨fun p hp => ?_, trivial⟩, trivial⟩
    rcases hb t rfl p hp with rfl | h
    · rw [cross_self_l]; exact Int.le_refl _
    · exact hq t [] rfl p hp h
  | t :: s :: r, hs, hm, hl, ht, hq, hb => by
    obtain ⟨s1, s2⟩ := List.pairwise_cons.1 hs
    have hst : pLt s t := s1 s List.mem_cons_self
    obtain ⟨l1, l2⟩ := hl
    have htc := hc t (hm t List.mem_cons_self)
    unfold popR
    by_cases hcr : cross s t c ≤ 0
    · rw [if_pos hcr]
      refine pop_left pts c hc (s :: r) s2 (fun p hp => hm p (List.mem_cons_of_mem _ hp)) l2 (by cases r with | nil => trivial | cons u r => exact ht.2) (fun t' r' he p hp hsp => ?_) (fun t' he p hp => hb t' (by rw [List.getLast?_cons_cons]; exact he) p hp)
      cases he
      exact turn_b hst (hc s (hm s (by simp))) hsp hcr (l1 p hp)
    · rw [if_neg hcr]
      refine ⟨⟨fun p hp => ?_, l1, l2⟩, by omega, ht⟩
      rcases pLt_tri p t with h | h | h
      · exact turn_c hst htc h (by omega) (l1 p hp)
      · rw [h, cross_self_l]; exact Int.le_refl _
      · exact hq t _ rfl p hp h
end Saw
end Go.SL
