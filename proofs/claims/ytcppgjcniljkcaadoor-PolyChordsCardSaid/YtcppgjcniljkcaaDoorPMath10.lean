/- Poly's plain mathematics, part 10: the hull as a closed walk that has every point on its left. -/
import Derived.Test.YtcppgjcniljkcaaDoorPMath9
set_option linter.unusedVariables false
set_option linter.unusedSimpArgs false
namespace Go.SL
namespace Saw

theorem last_rev {l : List Point} {m : Point} (h : l.getLast? = some m) : ∃ r, l.reverse = m :: r := by
  rw [List.getLast?_eq_head?_reverse] at h
  cases hr : l.reverse with
  | nil => rw [hr] at h; cases h
  | cons a r => rw [hr] at h; cases h; exact ⟨r, rfl⟩
theorem some_last {l : List Point} (h : l ≠ []) : ∃ m, l.getLast? = some m := by
  cases hl : l.getLast? with
  | none => exact absurd (List.getLast?_eq_none_iff.1 hl) h
  | some m => exact ⟨m, rfl⟩

/-- What a hull that is one looks like: lower chain from m to M, upper chain back. -/
theorem hull_form {s : List Point} (hs : StrictS s) (h5 : ¬ (chainR s).length + (chainR s.reverse).length < 5) : ∃ (m M : Point) (lo up : List Point), chainR s = M :: lo ∧ chainR s.reverse = m :: up ∧ m ∈ s ∧ M ∈ s ∧ (∀ p ∈ s, p = m ∨ pLt m p) ∧ (∀ p ∈ s, p = M ∨ pLt p M) ∧ pLt m M ∧ (∃ r, lo.reverse = m :: r) ∧ (∃ r, up.reverse = M :: r) ∧ hullOf s = lo.reverse ++ up.reverse := by
  have hne : s ≠ [] := fun e => by rw [e] at h5; simp [chainR] at h5
  have hi := chain_inv hs
  have hu := up_inv hs
  have l1 : chainR s ≠ [] := List.length_pos_iff.1 (chainR_pos hne)
  have l2 : chainR s.reverse ≠ [] := List.length_pos_iff.1 (chainR_pos (a := s.reverse) (by simpa using hne))
  obtain ⟨M, lo, e1⟩ := List.exists_cons_of_ne_nil l1
  obtain ⟨m, up, e2⟩ := List.exists_cons_of_ne_nil l2
  obtain ⟨m', f1⟩ := some_last l1
  obtain ⟨M', f2⟩ := some_last l2
  have hM : M ∈ s := hi.sub M (by rw [e1]; exact List.mem_cons_self)
  have hm : m ∈ s := hu.sub m (by rw [e2]; exact List.mem_cons_self)
  have hM' : M' ∈ s := hu.sub M' (List.mem_of_getLast? f2)
  have hm' : m' ∈ s := hi.sub m' (List.mem_of_getLast? f1)
  have tM := hi.top M lo e1
  have tm := hu.top m up e2
  have bm := hi.bot m' f1
  have bM := hu.bot M' f2
  have em : m' = m := by
    rcases bm m hm with h | h
    · exact h.symm
    · rcases tm m' hm' with h' | h'
      · exact h'
      · exact absurd h (pLt_asymm h')
  have eM : M' = M := by
    rcases bM M hM with h | h
    · exact h.symm
    · rcases tM M' hM' with h' | h'
      · exact h'
      · exact absurd h (pLt_asymm h')
  subst em eM
  have hlt : pLt m' M' := by
    rcases tm M' hM with h | h
    · exfalso
      have all : ∀ p ∈ s, p = m' := fun p hp => by
        rcases tm p hp with h1 | h1
        · exact h1
        · rcases tM p hp with h2 | h2
          · rw [h2, h]
          · rw [h] at h2; exact absurd h1 (pLt_asymm h2)
      have one : s.length ≤ 1 := by
        match s, hs, all with
        | [], _, _ => simp
        | [_], _, _ => simp
        | a :: b :: r, hs, all =>
          have := (List.pairwise_cons.1 hs).1 b List.mem_cons_self
          rw [all a (by simp), all b (by simp)] at this
          exact absurd this (pLt_irrefl _)
      have c1 := chainR_len s
      have c2 := chainR_len s.reverse
      rw [List.length_reverse] at c2
      omega
    · exact h
  have g1 : ∃ r, lo.reverse = m' :: r := by
    refine last_rev ?_
    rw [e1] at f1
    cases lo with
    | nil => simp at f1; rw [f1] at hlt; exact absurd hlt (pLt_irrefl _)
    | cons a r => rw [List.getLast?_cons_cons] at f1; exact f1
  have g2 : ∃ r, up.reverse = M' :: r := by
    refine last_rev ?_
    rw [e2] at f2
    cases up with
    | nil => simp at f2; rw [f2] at hlt; exact absurd hlt (pLt_irrefl _)
    | cons a r => rw [List.getLast?_cons_cons] at f2; exact f2
  refine ⟨m', M', lo, up, e1, e2, hm, hM, tm, tM, hlt, g1, g2, ?_⟩
  unfold hullOf
  rw [if_neg h5, e1, e2]
  rfl
/-- Every point lies to the left of each edge of the hull. -/
theorem hull_left {s : List Point} (hs : StrictS s) (h5 : ¬ (chainR s).length + (chainR s.reverse).length < 5) : 3 ≤ (hullOf s).length ∧ (∀ p ∈ hullOf s, p ∈ s) ∧ ∀ x, x < (hullOf s).length → ∀ p ∈ s, 0 ≤ cross ((hullOf s).getD x default) ((hullOf s).getD ((x + 1) % (hullOf s).length) default) p := by
  obtain ⟨m, M, lo, up, e1, e2, hm, hM, tm, tM, hlt, ⟨r1, g1⟩, ⟨r2, g2⟩, hH⟩ := hull_form hs h5
  have hi := chain_inv hs
  have hu := up_inv hs
  have L1 := left_rev hi.left
  have L2 := left_rev hu.left
  rw [e1, List.reverse_cons] at L1
  rw [e2, List.reverse_cons, g2, List.cons_append] at L2
  have LW : LeftF s (lo.reverse ++ up.reverse ++ [m]) := by
    rw [List.append_assoc, g2, List.cons_append]
    exact leftF_join L1 L2
  have hlen : (hullOf s).length = lo.length + up.length := by rw [hH]; simp
  have h3 : 3 ≤ (hullOf s).length := by
    have a1 : (chainR s).length = lo.length + 1 := by rw [e1]; rfl
    have a2 : (chainR s.reverse).length = up.length + 1 := by rw [e2]; rfl
    omega
  refine ⟨h3, fun p hp => ?_, fun x hx p hp => ?_⟩
  · rw [hH, List.mem_append, List.mem_reverse, List.mem_reverse] at hp
    rcases hp with hp | hp
    · exact hi.sub p (by rw [e1]; exact List.mem_cons_of_mem _ hp)
    · exact hu.sub p (by rw [e2]; exact List.mem_cons_of_mem _ hp)
  · have hw := leftF_get LW x (by rw [← hH]; simp; omega) p hp
    rw [← hH] at hw
    have w1 : (hullOf s ++ [m]).getD x default = (hullOf s).getD x default := by
      rw [List.getD_eq_getElem?_getD, List.getElem?_append_left hx, ← List.getD_eq_getElem?_getD]
    have w2 : (hullOf s ++ [m]).getD (x + 1) default = (hullOf s).getD ((x + 1) % (hullOf s).length) default := by
      by_cases hx1 : x + 1 < (hullOf s).length
      · rw [Nat.mod_eq_of_lt hx1, List.getD_eq_getElem?_getD, List.getElem?_append_left hx1, ← List.getD_eq_getElem?_getD]
      · have : x + 1 = (hullOf s).length := by omega
        rw [this, Nat.mod_self, List.getD_eq_getElem?_getD, List.getElem?_append_right (Nat.le_refl _), Nat.sub_self, hH, g1]
        rfl
    rw [w1, w2] at hw
    exact hw
end Saw
end Go.SL
