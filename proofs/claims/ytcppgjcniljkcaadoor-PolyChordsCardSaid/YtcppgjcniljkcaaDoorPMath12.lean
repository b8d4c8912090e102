/- Poly's plain mathematics, part 12: the hull turns to the left at every corner (all around). -/
import Derived.Test.YtcppgjcniljkcaaDoorPMath11
set_option linter.unusedVariables false
set_option linter.unusedSimpArgs false
namespace Go.SL
namespace Saw

theorem bot_turn {s : List Point} (hs : StrictS s) (h5 : ¬ (chainR s).length + (chainR s.reverse).length < 5) {x y m : Point} {lo up : List Point} (e1 : chainR s.reverse = m :: x :: up) (e2 : (chainR s).reverse = m :: y :: lo) : 0 < cross x m y := by
  have hs' : StrictS (s.reverse.map ng) := List.pairwise_map.2 (List.pairwise_reverse.2 (hs.imp (fun h => pLt_ng.2 h)))
  have c1 : chainR (s.reverse.map ng) = ng m :: ng x :: up.map ng := by rw [chainR_ng, e1]; rfl
  have c2 : chainR (s.reverse.map ng).reverse = (chainR s).map ng := by rw [← List.map_reverse, List.reverse_reverse, chainR_ng]
  have c3 : (chainR (s.reverse.map ng).reverse).reverse = ng m :: ng y :: lo.map ng := by rw [c2, ← List.map_reverse, e2]; rfl
  have := top_turn hs' (by rw [c2, chainR_ng, List.length_map, List.length_map]; omega) c1 c3
  rwa [cross_ng] at this
theorem getD_app_l {l t : List Point} {x : Nat} (h : x < l.length) : (l ++ t).getD x default = l.getD x default := by rw [List.getD_eq_getElem?_getD, List.getElem?_append_left h, ← List.getD_eq_getElem?_getD]
theorem getD_app_r {l t : List Point} (k : Nat) : (l ++ t).getD (l.length + k) default = t.getD k default := by rw [List.getD_eq_getElem?_getD, List.getElem?_append_right (by omega), Nat.add_sub_cancel_left, ← List.getD_eq_getElem?_getD]
theorem hull_turns {s : List Point} (hs : StrictS s) (h5 : ¬ (chainR s).length + (chainR s.reverse).length < 5) : ∀ x, x < (hullOf s).length → 0 < cross ((hullOf s).getD x default) ((hullOf s).getD ((x + 1) % (hullOf s).length) default) ((hullOf s).getD ((x + 2) % (hullOf s).length) default) := by
  have h3 := (hull_left hs h5).1
  obtain ⟨m, M, lo, up, e1, e2, hm, hM, tm, tM, hlt, ⟨r1, g1⟩, ⟨r2, g2⟩, hH⟩ := hull_form hs h5
  have hi := chain_inv hs
  have hu := up_inv hs
  have lone : lo ≠ [] := fun e => by rw [e] at g1; simp at g1
  have upne : up ≠ [] := fun e => by rw [e] at g2; simp at g2
  obtain ⟨x0, lo', ex⟩ := List.exists_cons_of_ne_nil lone
  obtain ⟨x1, up', ex'⟩ := List.exists_cons_of_ne_nil upne
  have T1 := turns_rev hi.turns
  have T2 := turns_rev hu.turns
  rw [e1, ex, List.reverse_cons, List.reverse_cons, List.append_assoc] at T1
  -- the upper walk begins with M, y
  obtain ⟨y, r3, ey⟩ : ∃ y r3, (chainR s.reverse).reverse = M :: y :: r3 := by
    rw [e2, List.reverse_cons, g2, List.cons_append]
    cases r2 with
    | nil => exact ⟨m, [], rfl⟩
    | cons y r => exact ⟨y, r ++ [m], rfl⟩
  obtain ⟨y', r4, ey'⟩ : ∃ y r4, (chainR s).reverse = m :: y :: r4 := by
    rw [e1, List.reverse_cons, g1, List.cons_append]
    cases r1 with
    | nil => exact ⟨M, [], rfl⟩
    | cons y r => exact ⟨y, r ++ [M], rfl⟩
  have k1 := top_turn hs h5 (e1.trans (by rw [ex])) ey
  have k2 := bot_turn hs h5 (e2.trans (by rw [ex'])) ey'
  rw [ey] at T2
  have W1 : TurnsF (lo'.reverse ++ x0 :: M :: y :: r3) := turnsF_join T1 ⟨k1, T2⟩
  have eW : lo'.reverse ++ x0 :: M :: y :: r3 = hullOf s ++ [m] := by
    rw [hH, ex, List.reverse_cons, List.append_assoc, List.append_assoc]
    congr 1
    show x0 :: M :: y :: r3 = x0 :: (up.reverse ++ [m])
    congr 1
    rw [← ey, e2, List.reverse_cons]
  have eH : ∃ q, hullOf s = q ++ [x1] := ⟨lo.reverse ++ up'.reverse, by rw [hH, ex', List.reverse_cons, List.append_assoc]⟩
  obtain ⟨q, hq⟩ := eH
  rw [eW] at W1
  have W2 : TurnsF (hullOf s ++ [m, y']) := by
    rw [hq, List.append_assoc] at W1 ⊢
    exact turnsF_join W1 ⟨k2, trivial⟩
  have h0 : (hullOf s).getD 0 default = m := by rw [hH, g1]; rfl
  have h1 : (hullOf s).getD 1 default = y' := by
    have : (hullOf s) = (lo.reverse ++ [M]) ++ r2 := by rw [hH, g2, List.append_assoc]; rfl
    have hlr : lo.reverse ++ [M] = m :: y' :: r4 := by rw [← ey', e1, List.reverse_cons]
    rw [this, hlr]; rfl
  intro x hx
  have w := turnsF_get W2 x (by simp; omega)
  rw [getD_app_l hx] at w
  have a1 : (hullOf s ++ [m, y']).getD (x + 1) default = (hullOf s).getD ((x + 1) % (hullOf s).length) default := by
    by_cases hx1 : x + 1 < (hullOf s).length
    · rw [Nat.mod_eq_of_lt hx1, getD_app_l hx1]
    · have e : x + 1 = (hullOf s).length := by omega
      rw [e, Nat.mod_self, h0]
      exact getD_app_r 0
  have a2 : (hullOf s ++ [m, y']).getD (x + 2) default = (hullOf s).getD ((x + 2) % (hullOf s).length) default := by
    by_cases hx1 : x + 2 < (hullOf s).length
    · rw [Nat.mod_eq_of_lt hx1, getD_app_l hx1]
    · by_cases hx2 : x + 2 = (hullOf s).length
      · rw [hx2, Nat.mod_self, h0]
        exact getD_app_r 0
      · have e : x + 2 = (hullOf s).length + 1 := by omega
        rw [e, Nat.add_mod_left, Nat.mod_eq_of_lt (by omega), h1]
        exact getD_app_r 1
  rw [a1, a2] at w
  exact w
end Saw
end Go.SL
