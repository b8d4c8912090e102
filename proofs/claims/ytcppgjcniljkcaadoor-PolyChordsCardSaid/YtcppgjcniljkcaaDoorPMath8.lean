/- Poly's plain mathematics, part 8: a chain's invariant. -/
import Derived.Test.YtcppgjcniljkcaaDoorPMath7
set_option linter.unusedVariables false
set_option linter.unusedSimpArgs false
namespace Go.SL
namespace Saw

abbrev Desc (st : List Point) : Prop := st.Pairwise (fun a b => pLt b a)
structure Inv (pts st : List Point) : Prop where
  desc : Desc st
  sub : ∀ p ∈ st, p ∈ pts
  left : Left pts st
  turns : Turns st
  top : ∀ t r, st = t :: r → ∀ p ∈ pts, p = t ∨ pLt p t
  bot : ∀ t, st.getLast? = some t → ∀ p ∈ pts, p = t ∨ pLt t p
theorem popR_desc (c : Point) : ∀ st, Desc st → Desc (popR st c)
  | [], h => h
  | [_], h => h
  | t :: s :: r, h => by
    unfold popR
    split
    · exact popR_desc c (s :: r) (List.pairwise_cons.1 h).2
    · exact h
theorem popR_last (c : Point) : ∀ st, (popR st c).getLast? = st.getLast?
  | [] => rfl
  | [_] => rfl
  | t :: s :: r => by
    unfold popR
    split
    · rw [popR_last c (s :: r), List.getLast?_cons_cons]
    · rfl
theorem left_app {a b : List Point} : ∀ {st : List Point}, Left a st → Left b st → Left (a ++ b) st
  | [], _, _ => trivial
  | [_], _, _ => trivial
  | v :: u :: r, ⟨h1, h2⟩, ⟨h3, h4⟩ => ⟨fun p hp => (List.mem_append.1 hp).elim (h1 p) (h3 p), left_app h2 h4⟩
/-- The turns of a chain carry what lies left of its last edge to the left of all its edges. -/
theorem left_new (c : Point) : ∀ st, Desc st → (∀ p ∈ st, pLt p c) → Turns st → (∀ v u r, st = v :: u :: r → 0 ≤ cross u v c) → Left [c] st
  | [], _, _, _, _ => trivial
  | [_], _, _, _, _ => trivial
  | v :: u :: r, hd, hc, ht, h0 => by
    have h1 := h0 v u r rfl
    obtain ⟨d1, d2⟩ := List.pairwise_cons.1 hd
    refine ⟨fun p hp => by rw [List.mem_singleton.1 hp]; exact h1, left_new c (u :: r) d2 (fun p hp => hc p (List.mem_cons_of_mem _ hp)) (by cases r with | nil => trivial | cons x r => exact ht.2) (fun v' u' r' he => ?_)⟩
    cases he
    obtain ⟨t1, _⟩ := ht
    have huv : pLt u v := d1 u List.mem_cons_self
    have hxu : pLt u' u := (List.pairwise_cons.1 d2).1 u' List.mem_cons_self
    have huc : pLt u c := hc u (by simp)
    have := vec_trans (lt_pos hxu) (lt_pos huv) (lt_pos huc) (by unfold cross at t1; grind) (by unfold cross at h1; grind)
    unfold cross
    grind
theorem Inv.push {pts st : List Point} (h : Inv pts st) {c : Point} (hc : ∀ p ∈ pts, pLt p c) (hne : pts ≠ [] → st ≠ []) : Inv (pts ++ [c]) (pushR st c) := by
  have hp := pop_left pts c hc st h.desc h.sub h.left h.turns (fun t r he p hp htp => by
    rcases h.top t r he p hp with rfl | h1
    · exact absurd htp (pLt_irrefl _)
    · exact absurd htp (pLt_asymm h1)) h.bot
  have hsub : ∀ p ∈ popR st c, p ∈ pts := fun p hp => h.sub p (popR_sub c st p hp)
  have hlt : ∀ p ∈ popR st c, pLt p c := fun p hp => hc p (hsub p hp)
  have hdesc : Desc (pushR st c) := List.pairwise_cons.2 ⟨hlt, popR_desc c st h.desc⟩
  refine ⟨hdesc, fun p hp' => ?_, left_app hp.1 ?_, hp.2, fun t r he p hp' => ?_, fun t he p hp' => ?_⟩
  · rcases List.mem_cons.1 hp' with rfl | hp'
    · simp
    · exact List.mem_append_left _ (hsub p hp')
  · have hl : Left [c] (popR st c) := by
      refine left_new c _ (popR_desc c st h.desc) hlt ?_ (fun v u r he => ?_)
      · have := hp.2
        generalize popR st c = q at this
        match q, this with
        | [], _ => trivial
        | [_], _ => trivial
        | [_, _], _ => trivial
        | _ :: _ :: _ :: _, this => exact this.2
      · have := hp.2
        rw [he] at this
        exact Int.le_of_lt this.1
    unfold pushR
    generalize popR st c = q at hl
    match q, hl with
    | [], _ => trivial
    | t :: r, hl => exact ⟨fun p hp => by rw [List.mem_singleton.1 hp, cross_self_r]; exact Int.le_refl _, hl⟩
  · cases he
    rcases List.mem_append.1 hp' with h1 | h1
    · exact .inr (hc p h1)
    · exact .inl (List.mem_singleton.1 h1)
  · unfold pushR at he
    by_cases hst : st = []
    · subst hst
      have hpts : pts = [] := Classical.byContradiction fun hh => hne hh rfl
      subst hpts
      simp [popR] at he
      subst he
      exact .inl (by simpa using hp')
    · have hpe : popR st c ≠ [] := fun e => by
        have := popR_last c st
        rw [e] at this
        exact hst (List.getLast?_eq_none_iff.1 this.symm)
      have he' : st.getLast? = some t := by
        obtain ⟨x, q, hq⟩ := List.exists_cons_of_ne_nil hpe
        rw [← popR_last c st, hq]
        rw [hq, List.getLast?_cons_cons] at he
        exact he
      rcases List.mem_append.1 hp' with h1 | h1
      · exact h.bot t he' p h1
      · rw [List.mem_singleton.1 h1]
        exact .inr (hc t (h.sub t (List.mem_of_getLast? he')))
theorem inv_fold : ∀ (rest pts st : List Point), Inv pts st → (pts ≠ [] → st ≠ []) → (∀ p ∈ pts, ∀ q ∈ rest, pLt p q) → StrictS rest → Inv (pts ++ rest) (rest.foldl pushR st)
  | [], pts, st, h, _, _, _ => by simpa using h
  | c :: rest, pts, st, h, hne, hlt, hs => by
    obtain ⟨s1, s2⟩ := List.pairwise_cons.1 hs
    have := inv_fold rest (pts ++ [c]) (pushR st c) (h.push (fun p hp => hlt p hp c List.mem_cons_self) hne) (fun _ => by unfold pushR; simp) (fun p hp q hq => by
      rcases List.mem_append.1 hp with h1 | h1
      · exact hlt p h1 q (List.mem_cons_of_mem _ hq)
      · rw [List.mem_singleton.1 h1]; exact s1 q hq) s2
    rw [List.append_assoc] at this
    exact this
theorem chain_inv {s : List Point} (hs : StrictS s) : Inv s (chainR s) := by
  have := inv_fold s [] [] ⟨List.Pairwise.nil, fun p hp => (by cases hp), trivial, trivial, fun t r he => (by cases he), fun t he => (by cases he)⟩ (fun h => absurd rfl h) (fun p hp => by cases hp) hs
  simpa [chainR] using this
end Saw
end Go.SL
