/- Poly's plain mathematics, part 31: the hull of points among which its corners are. -/
import Derived.Test.YtjelipmghgcpeaaSMa6
import Derived.Test.YtjelipmghgcpeaaSMa3
set_option linter.unusedVariables false
set_option linter.unusedSimpArgs false
namespace Go.SL
namespace Saw

theorem leftF_mem {a b : List Point} (h : ∀ p, p ∈ b → p ∈ a) : ∀ {st : List Point}, LeftF a st → LeftF b st
  | [], _ => trivial
  | [_], _ => trivial
  | _ :: _ :: _, ⟨h1, h2⟩ => ⟨fun p hp => h1 p (h p hp), leftF_mem h h2⟩
theorem leftF_ng {pts : List Point} : ∀ {st : List Point}, LeftF pts st → LeftF (pts.map ng) (st.map ng)
  | [], _ => trivial
  | [_], _ => trivial
  | _ :: _ :: _, ⟨h1, h2⟩ => ⟨fun p hp => by obtain ⟨q, hq, rfl⟩ := List.mem_map.1 hp; rw [cross_ng]; exact h1 q hq, leftF_ng h2⟩
theorem turnsF_ng : ∀ {st : List Point}, TurnsF st → TurnsF (st.map ng)
  | [], _ => trivial
  | [_], _ => trivial
  | [_, _], _ => trivial
  | _ :: _ :: _ :: _, ⟨h1, h2⟩ => ⟨by rw [cross_ng]; exact h1, turnsF_ng h2⟩
theorem map_ng_inj {l t : List Point} (h : l.map ng = t.map ng) : l = t := by rw [← map_ng_ng l, h, map_ng_ng]

/-- A chain as a walk from the first to the last of the points. -/
structure Walk (pts w : List Point) (m M : Point) : Prop where
  left : LeftF pts w
  turns : TurnsF w
  asc : StrictS w
  sub : ∀ p ∈ w, p ∈ pts
  first : w.head? = some m
  last : w.getLast? = some M
theorem walk_unique {pts w1 w2 : List Point} {m M : Point} (h1 : Walk pts w1 m M) (h2 : Walk pts w2 m M) : w1 = w2 := by
  cases w1 with
  | nil => have := h1.first; simp at this
  | cons c1 t1 => cases w2 with
    | nil => have := h2.first; simp at this
    | cons c2 t2 =>
      have e1 : c1 = m := by simpa using h1.first
      have e2 : c2 = m := by simpa using h2.first
      subst e1 e2
      rw [chain_unique t1 t2 _ h1.left h2.left h1.turns h2.turns h1.asc h2.asc (fun p hp => h1.sub p (List.mem_cons_of_mem _ hp)) (fun p hp => h2.sub p (List.mem_cons_of_mem _ hp)) h1.last h2.last]
theorem walk_lo {s : List Point} (hs : StrictS s) {m M : Point} (hm : m ∈ s) (hM : M ∈ s) (tm : ∀ p ∈ s, p = m ∨ pLt m p) (tM : ∀ p ∈ s, p = M ∨ pLt p M) : Walk s (chainR s).reverse m M := by
  have hi := chain_inv hs
  have hne : chainR s ≠ [] := fun e => by have := chainR_pos (List.ne_nil_of_mem hm); rw [e] at this; simp at this
  refine ⟨left_rev hi.left, turns_rev hi.turns, List.pairwise_reverse.2 hi.desc, fun p hp => hi.sub p (by simpa using hp), ?_, ?_⟩
  · obtain ⟨t, ht⟩ := some_last hne
    rw [List.head?_reverse, ht]
    have h1 := hi.bot t ht m hm
    have h2 := tm t (hi.sub t (List.mem_of_getLast? ht))
    rcases h1 with e | h1
    · rw [e]
    · rcases h2 with e | h2
      · rw [e]
      · exact absurd h2 (pLt_asymm h1)
  · rw [List.getLast?_reverse]
    cases hcr : chainR s with
    | nil => exact absurd hcr hne
    | cons t r =>
      have h1 := hi.top t r hcr M hM
      have h2 := tM t (hi.sub t (by rw [hcr]; simp))
      rcases h1 with e | h1
      · rw [e]; rfl
      · rcases h2 with e | h2
        · rw [e]; rfl
        · exact absurd h2 (pLt_asymm h1)
theorem walk_up {s : List Point} (hs : StrictS s) {m M : Point} (hm : m ∈ s) (hM : M ∈ s) (tm : ∀ p ∈ s, p = m ∨ pLt m p) (tM : ∀ p ∈ s, p = M ∨ pLt p M) : Walk (s.map ng) ((chainR s.reverse).reverse.map ng) (ng M) (ng m) := by
  have hi := up_inv hs
  have hne : chainR s.reverse ≠ [] := fun e => by have := chainR_pos (a := s.reverse) (by simpa using List.ne_nil_of_mem hm); rw [e] at this; simp at this
  refine ⟨leftF_ng (left_rev hi.left), turnsF_ng (turns_rev hi.turns), List.pairwise_map.2 (List.pairwise_reverse.2 (hi.asc.imp fun h => pLt_ng.2 h)), fun p hp => ?_, ?_, ?_⟩
  · obtain ⟨q, hq, rfl⟩ := List.mem_map.1 hp
    exact List.mem_map_of_mem (hi.sub q (by simpa using hq))
  · obtain ⟨t, ht⟩ := some_last hne
    rw [List.head?_map, List.head?_reverse, ht]
    have h1 := hi.bot t ht M hM
    have h2 := tM t (hi.sub t (List.mem_of_getLast? ht))
    rcases h1 with e | h1
    · rw [e]; rfl
    · rcases h2 with e | h2
      · rw [e]; rfl
      · exact absurd h2 (pLt_asymm h1)
  · rw [List.getLast?_map, List.getLast?_reverse]
    cases hcr : chainR s.reverse with
    | nil => exact absurd hcr hne
    | cons t r =>
      have h1 := hi.top t r hcr m hm
      have h2 := tm t (hi.sub t (by rw [hcr]; simp))
      rcases h1 with e | h1
      · rw [e]; rfl
      · rcases h2 with e | h2
        · rw [e]; rfl
        · exact absurd h2 (pLt_asymm h1)
theorem Walk.sub' {pts pts' w : List Point} {m M : Point} (h : Walk pts w m M) (hs : ∀ p ∈ pts', p ∈ pts) (hw : ∀ p ∈ w, p ∈ pts') : Walk pts' w m M := ⟨leftF_mem hs h.left, h.turns, h.asc, hw, h.first, h.last⟩

/-- The hull of some of the points, among them all corners. -/
theorem hullOf_sub {s s' : List Point} (hs : StrictS s) (hs' : StrictS s') (h5 : ¬ (chainR s).length + (chainR s.reverse).length < 5) (hsub : ∀ p ∈ s', p ∈ s) (hcor : ∀ p ∈ hullOf s, p ∈ s') : hullOf s' = hullOf s := by
  obtain ⟨m, M, lo, up, e1, e2, hm, hM, tm, tM, hlt, ⟨r1, g1⟩, ⟨r2, g2⟩, hH⟩ := hull_form hs h5
  have cm : m ∈ s' := hcor m (by rw [hH, g1]; simp)
  have cM : M ∈ s' := hcor M (by rw [hH, g2]; simp)
  have clo : ∀ p ∈ (chainR s).reverse, p ∈ s' := fun p hp => by
    rw [e1, List.reverse_cons, List.mem_append] at hp
    rcases hp with hp | hp
    · exact hcor p (by rw [hH, List.mem_append]; exact .inl hp)
    · rw [List.mem_singleton.1 hp]; exact cM
  have cup : ∀ p ∈ (chainR s.reverse).reverse, p ∈ s' := fun p hp => by
    rw [e2, List.reverse_cons, List.mem_append] at hp
    rcases hp with hp | hp
    · exact hcor p (by rw [hH, List.mem_append]; exact .inr hp)
    · rw [List.mem_singleton.1 hp]; exact cm
  have tm' : ∀ p ∈ s', p = m ∨ pLt m p := fun p hp => tm p (hsub p hp)
  have tM' : ∀ p ∈ s', p = M ∨ pLt p M := fun p hp => tM p (hsub p hp)
  have w1 := (walk_lo hs hm hM tm tM).sub' hsub clo
  have w2 := walk_lo hs' cm cM tm' tM'
  have w3 := (walk_up hs hm hM tm tM).sub' (pts' := s'.map ng) (fun p hp => by obtain ⟨q, hq, rfl⟩ := List.mem_map.1 hp; exact List.mem_map_of_mem (hsub q hq)) (fun p hp => by obtain ⟨q, hq, rfl⟩ := List.mem_map.1 hp; exact List.mem_map_of_mem (cup q hq))
  have w4 := walk_up hs' cm cM tm' tM'
  have c1 : chainR s' = chainR s := List.reverse_inj.1 (walk_unique w2 w1)
  have c2 : chainR s'.reverse = chainR s.reverse := List.reverse_inj.1 (map_ng_inj (walk_unique w4 w3))
  unfold hullOf
  rw [c1, c2]

/-- No corner occurs twice. -/
theorem hullOf_nodup {s : List Point} (hs : StrictS s) : (hullOf s).Nodup := by
  by_cases h5 : (chainR s).length + (chainR s.reverse).length < 5
  · unfold hullOf; rw [if_pos h5]; exact List.nodup_nil
  obtain ⟨m, M, lo, up, e1, e2, hm, hM, tm, tM, hlt, ⟨r1, g1⟩, ⟨r2, g2⟩, hH⟩ := hull_form hs h5
  have hi := chain_inv hs
  have hu := up_inv hs
  have d1 := hi.desc
  have d2 := hu.asc
  rw [e1, Desc, List.pairwise_cons] at d1
  rw [e2, StrictS, List.pairwise_cons] at d2
  rw [hH, List.nodup_append]
  refine ⟨?_, ?_, ?_⟩
  · rw [List.Nodup, List.pairwise_reverse]
    exact d1.2.imp (fun h e => by rw [e] at h; exact pLt_irrefl _ h)
  · rw [List.Nodup, List.pairwise_reverse]
    exact d2.2.imp (fun h e => by rw [e] at h; exact pLt_irrefl _ h)
  · intro p hp q hq e
    subst e
    have pM : pLt p M := d1.1 p (by simpa using hp)
    have mp : pLt m p := d2.1 p (by simpa using hq)
    have L1 := left_rev hi.left
    have T1 := turns_rev hi.turns
    have L2 := left_rev hu.left
    rw [e1, List.reverse_cons] at L1 T1
    rw [e2, List.reverse_cons] at L2
    have before : ∀ {x : Point} {l r : List Point}, l = x :: r → p ∈ l → p ≠ x → ∃ k1 u k2, l = k1 ++ u :: p :: k2 := by
      intro x l r hl hpl hne
      obtain ⟨k1, k2, e⟩ := List.append_of_mem hpl
      rcases List.eq_nil_or_concat k1 with rfl | ⟨k, u, rfl⟩
      · rw [hl] at e; injection e with e _; exact absurd e.symm hne
      · exact ⟨k, u, k2, by rw [e]; simp⟩
    obtain ⟨k1, u, k2, f1⟩ := before g1 hp (fun e => by rw [e] at mp; exact pLt_irrefl _ mp)
    obtain ⟨k3, z, k4, f2⟩ := before g2 hq (fun e => by rw [e] at pM; exact pLt_irrefl _ pM)
    have hup : pLt u p := by
      have : (lo.reverse).Pairwise pLt := List.pairwise_reverse.2 d1.2
      rw [f1, List.pairwise_append] at this
      exact (List.pairwise_cons.1 this.2.1).1 p (by simp)
    have hpz : pLt p z := by
      have : (up.reverse).Pairwise (fun a b => pLt b a) := List.pairwise_reverse.2 d2.2
      rw [f2, List.pairwise_append] at this
      exact (List.pairwise_cons.1 this.2.1).1 p (by simp)
    have us : u ∈ s := hi.sub u (by rw [e1]; exact List.mem_cons_of_mem _ (by rw [← List.mem_reverse, f1]; simp))
    have zs : z ∈ s := hu.sub z (by rw [e2]; exact List.mem_cons_of_mem _ (by rw [← List.mem_reverse, f2]; simp))
    obtain ⟨v, k5, f3⟩ : ∃ v k5, k2 ++ [M] = v :: k5 := by cases k2 with | nil => exact ⟨M, [], rfl⟩ | cons v k => exact ⟨v, k ++ [M], rfl⟩
    have f4 : lo.reverse ++ [M] = k1 ++ u :: p :: v :: k5 := by rw [f1, List.append_assoc, List.cons_append, List.cons_append, f3]
    rw [f4] at L1 T1
    rw [f2, List.append_assoc] at L2
    have a1 := leftF_at L1 z zs
    have a2 : 0 ≤ cross p v z := leftF_at (l := k1 ++ [u]) (by rw [List.append_assoc]; exact L1) z zs
    have a3 := turnsF_at T1
    have a4 := leftF_at (l := k3) L2 u us
    have e0 : cross u p z = 0 := by
      have : cross z p u = -cross u p z := by unfold cross; grind
      omega
    exact uniq_step hup hpz e0 a3 a2

/-! ### Where there is no hull -/
theorem ends {s : List Point} (hs : StrictS s) (hne : s ≠ []) : ∃ m M, m ∈ s ∧ M ∈ s ∧ (∀ p ∈ s, p = m ∨ pLt m p) ∧ (∀ p ∈ s, p = M ∨ pLt p M) := by
  induction s with
  | nil => exact absurd rfl hne
  | cons a s ih =>
    obtain ⟨h1, h2⟩ := List.pairwise_cons.1 hs
    by_cases h : s = []
    · subst h; exact ⟨a, a, by simp, by simp, by simp, by simp⟩
    · obtain ⟨m, M, hm, hM, t1, t2⟩ := ih h2 h
      refine ⟨a, M, by simp, List.mem_cons_of_mem _ hM, fun p hp => ?_, fun p hp => ?_⟩
      · rcases List.mem_cons.1 hp with rfl | hp
        · exact .inl rfl
        · exact .inr (h1 p hp)
      · rcases List.mem_cons.1 hp with rfl | hp
        · exact .inr (h1 M hM)
        · exact t2 p hp
theorem collinear3 {m M p q r : Point} (hne : m ≠ M) (h1 : cross m M p = 0) (h2 : cross m M q = 0) (h3 : cross m M r = 0) : cross p q r = 0 := by
  have ex : (M.X - m.X) * cross p q r = 0 := by
    have : (M.X - m.X) * cross p q r = (q.X - p.X) * (cross m M r - cross m M p) - (r.X - p.X) * (cross m M q - cross m M p) := by unfold cross; grind
    rw [this, h1, h2, h3]; simp
  have ey : (M.Y - m.Y) * cross p q r = 0 := by
    have : (M.Y - m.Y) * cross p q r = (q.Y - p.Y) * (cross m M r - cross m M p) - (r.Y - p.Y) * (cross m M q - cross m M p) := by unfold cross; grind
    rw [this, h1, h2, h3]; simp
  rcases Int.mul_eq_zero.1 ex with h | h
  · rcases Int.mul_eq_zero.1 ey with h' | h'
    · refine absurd ?_ hne
      cases m; cases M
      simp only [Point.mk.injEq]
      simp only at h h'
      omega
    · exact h'
  · exact h
theorem hullOf_nil {s : List Point} (hs : StrictS s) (h : hullOf s = []) {p q r : Point} (hp : p ∈ s) (hq : q ∈ s) (hr : r ∈ s) : cross p q r = 0 := by
  have h5 : (chainR s).length + (chainR s.reverse).length < 5 := by
    refine Classical.byContradiction fun h5 => ?_
    have := (hull_left hs h5).1
    rw [h] at this; simp at this
  obtain ⟨m, M, hm, hM, t1, t2⟩ := ends hs (List.ne_nil_of_mem hp)
  by_cases e : m = M
  · subst e
    have one : ∀ x ∈ s, x = m := fun x hx => by
      rcases t1 x hx with e | e
      · exact e
      · rcases t2 x hx with e' | e'
        · exact e'
        · exact absurd e (pLt_asymm e')
    rw [one p hp, one q hq, one r hr]
    unfold cross; simp
  · have w1 := walk_lo hs hm hM t1 t2
    have w2 := walk_up hs hm hM t1 t2
    have two : ∀ {w : List Point} {a b : Point}, w.head? = some a → w.getLast? = some b → a ≠ b → 2 ≤ w.length ∧ (w.length = 2 → w = [a, b]) := by
      intro w a b x1 x2 hne
      match w with
      | [] => simp at x1
      | [c] =>
        simp only [List.head?_cons, Option.some.injEq] at x1
        simp only [List.getLast?_singleton, Option.some.injEq] at x2
        exact absurd (x1.symm.trans x2) hne
      | [c, d] =>
        simp only [List.head?_cons, Option.some.injEq] at x1
        simp only [List.getLast?_cons_cons, List.getLast?_singleton, Option.some.injEq] at x2
        exact ⟨by simp, fun _ => by rw [x1, x2]⟩
      | c :: d :: f :: w => exact ⟨by simp, fun h => by simp at h⟩
    have k1 := two w1.first w1.last e
    have k2 := two w2.first w2.last (fun h => e (by rw [← ng_ng m, ← h, ng_ng]))
    rw [List.length_reverse] at k1
    rw [List.length_map, List.length_reverse] at k2
    have f1 := k1.2 (by omega)
    have f2 := k2.2 (by omega)
    have L1 := w1.left
    have L2 := w2.left
    rw [f1] at L1
    rw [f2] at L2
    have z : ∀ x ∈ s, cross m M x = 0 := fun x hx => by
      have a1 := L1.1 x hx
      have a2 := L2.1 (ng x) (List.mem_map_of_mem hx)
      rw [cross_ng] at a2
      have : cross M m x = -cross m M x := by unfold cross; grind
      omega
    exact collinear3 e (z p hp) (z q hq) (z r hr)
theorem hull_nil {a : List Point} (hl : a.length ≤ 32) (hr : a.all inRange = true) (h : hull a = []) {p q r : Point} (hp : p ∈ a) (hq : q ∈ a) (hr' : r ∈ a) : cross p q r = 0 := by
  unfold hull at h
  rw [decide_eq_false (by omega), hr] at h
  exact hullOf_nil (srt_strict a) h ((srt_mem a p).2 hp) ((srt_mem a q).2 hq) ((srt_mem a r).2 hr')
theorem nodup_len {l s : List Point} (hn : l.Nodup) (hs : ∀ p ∈ l, p ∈ s) : l.length ≤ s.length := by
  induction l generalizing s with
  | nil => simp
  | cons a l ih =>
    obtain ⟨h1, h2⟩ := List.nodup_cons.1 hn
    obtain ⟨k1, k2, e⟩ := List.append_of_mem (hs a (by simp))
    have := ih h2 (s := k1 ++ k2) (fun p hp => by
      have := hs p (List.mem_cons_of_mem _ hp)
      rw [e, List.mem_append, List.mem_cons] at this
      rcases this with h | h | h
      · simp [h]
      · rw [h] at hp; exact absurd hp h1
      · simp [h])
    rw [e]
    simp only [List.length_append, List.length_cons] at this ⊢
    omega
theorem hull_nodup (a : List Point) : (hull a).Nodup := by
  by_cases h : hull a = []
  · rw [h]; exact List.nodup_nil
  · rw [(hull_of h).2.2.1]; exact hullOf_nodup (srt_strict a)
theorem hull_le (a : List Point) : (hull a).length ≤ a.length := nodup_len (hull_nodup a) (fun p hp => hull_mem hp)
/-- The hull of some of the points, among them all corners. -/
theorem hull_sub {a b : List Point} (ha : hull a ≠ []) (hb : b.length ≤ 32) (hsub : ∀ p ∈ b, p ∈ a) (hcor : ∀ p ∈ hull a, p ∈ b) : hull b = hull a := by
  obtain ⟨h1, h2, h3, h5⟩ := hull_of ha
  have hr : b.all inRange = true := List.all_eq_true.2 fun p hp => List.all_eq_true.1 h2 p (hsub p hp)
  have e : hull b = hullOf (srt b) := by unfold hull; rw [decide_eq_false (by omega), hr]; rfl
  rw [e, h3]
  refine hullOf_sub (srt_strict a) (srt_strict b) h5 (fun p hp => (srt_mem a p).2 (hsub p ((srt_mem b p).1 hp))) (fun p hp => (srt_mem b p).2 (hcor p (by rw [h3]; exact hp)))
end Saw
end Go.SL

namespace Go.SL
namespace Saw

theorem inH_rng {H : List Point} (hc : Cvx H) {X y : Int} (h : inH H X y) : -600 ≤ X ∧ X ≤ 600 := by
  have a := lin_nonneg hc h (al := 1) (be := 0) (c := 600) (fun p hp => by have := hc.rg p hp; unfold lin; omega)
  have b := lin_nonneg hc h (al := -1) (be := 0) (c := 600) (fun p hp => by have := hc.rg p hp; unfold lin; omega)
  unfold lin at a b
  simp only at a b
  omega
theorem chord_rng (p : List Point) (lo hi : Int) : rngS (chord p lo hi) = true ∧ nrm (chord p lo hi) = chord p lo hi := by
  rcases chord_spec p lo hi with ⟨e, _⟩ | ⟨h0, h1, h2, h3⟩
  · rw [e]; exact ⟨rfl, rfl⟩
  · have k1 := (h3 _).1 ⟨Int.le_refl _, Int.le_of_lt h2⟩
    have k2 := (h3 _).1 ⟨Int.le_of_lt h2, Int.le_refl _⟩
    have r1 := inH_rng (hull_cvx h0) k1.1
    have r2 := inH_rng (hull_cvx h0) k2.1
    refine ⟨rngS_iff.2 (by omega), nrm_ne ?_⟩
    unfold empS
    exact decide_eq_false (by omega)
noncomputable def ofS (p : List Point) : Section := secOf (fun j => chord p (10 * ((j : Int) - 60)) (10 * ((j : Int) - 60 + 1)))
theorem VS_of' (p : List Point) : VS (ofS p) := secOf_VS (fun j _ => by rw [(chord_rng _ _ _).2]; exact (chord_rng _ _ _).1)
theorem row_of (p : List Point) (r : Int) : row (ofS p) r = if -60 ≤ r ∧ r < 60 then chord p (10 * r) (10 * (r + 1)) else ⟨0, 0⟩ := by
  unfold ofS
  rw [secOf_row (fun r => chord p (10 * r) (10 * (r + 1))), (chord_rng _ _ _).2]
theorem build_of (p : List Point) : section_build p = some (ofS p) := by
  have m1 : ∀ r : Int, -60 ≤ r → r < 60 → section_Of_1 r p = some (chord p (10 * r) (10 * (r + 1))) := fun r h1 h2 => by
    unfold section_Of_1 section_heights
    rw [w64_id (n := r + 1) (by omega) (by omega), w64_id (by omega) (by omega), w64_id (by omega) (by omega)]
    simp only [Option.bind_some, polyChord_eq]
  unfold section_build
  refine build_gen (fun j => chord p (10 * ((j : Int) - 60)) (10 * ((j : Int) - 60 + 1))) (section_build_L1 p) (fun n x u w l hx => ?_) (fun n u w l => ?_)
  · rw [section_build_L1, decide_eq_true (show (x : Int) - 60 < 60 by omega), m1 _ (by omega) (by omega)]
    simp only [cond_true, Option.bind_some, section_isEmpty_eq, section_build_k2, section_build_k3]
  · rw [section_build_L1]; rfl
theorem chord_out {p : List Point} {lo hi : Int} (h : (∀ q ∈ p, lo < q.Y) ∨ (∀ q ∈ p, q.Y < hi)) : chord p lo hi = ⟨0, 0⟩ := by
  rcases chord_spec p lo hi with ⟨e, _⟩ | ⟨h0, h1, h2, h3⟩
  · exact e
  · have k1 := (h3 _).1 ⟨Int.le_refl _, Int.le_of_lt h2⟩
    have hb := bounds_YB h0
    have y1 := in_YB (hull_cvx h0) hb k1.1
    have y2 := in_YB (hull_cvx h0) hb k1.2
    obtain ⟨u, hu, eu⟩ := hb.lo
    obtain ⟨v, hv, ev⟩ := hb.hi
    rcases h with h | h
    · have := h u (hull_mem hu); omega
    · have := h v (hull_mem hv); omega
theorem of_L1 (p : List Point) (hl : p.length ≤ 1000) (y : Int) : ∃ lo hi, ref10_Of_L1 p FUEL y y 0 = some (lo, hi) ∧ ∀ q ∈ p, lo ≤ q.Y ∧ q.Y ≤ hi := by
  have k := loop_fold p (fun n (s : Int × Int) x => ref10_Of_L1 p n s.1 s.2 x) (fun x => (x : Int)) (fun _ a s => (imin s.1 a.Y, imax s.2 a.Y)) (fun s => s) (fun x s => ∀ j, j < x → s.1 ≤ (p.getD j default).Y ∧ (p.getD j default).Y ≤ s.2) (by omega)
    (fun n x s hx hi => by
      refine ⟨?_, fun j hj => ?_⟩
      · rw [ref10_Of_L1, decide_eq_true (show (x : Int) < _ by omega), inb_t (by omega) (by omega), inc_eq (by omega)]; rfl
      · have a1 := imin_or s.1 (p.getD x default).Y
        have a2 := imax_or s.2 (p.getD x default).Y
        simp only
        by_cases hjx : j = x
        · subst hjx; omega
        · have := hi j (by omega); omega)
    (fun n s _ => by rw [ref10_Of_L1]; simp) (i := 0) rfl (y, y) (fun j hj => by omega)
  refine ⟨_, _, k.1, fun q hq => ?_⟩
  obtain ⟨i, hi, e⟩ := List.mem_iff_getElem.1 hq
  have := k.2 i hi
  rw [List.getD_eq_getElem?_getD, List.getElem?_eq_getElem hi, Option.getD_some, e] at this
  exact this
theorem of_L2 (p : List Point) (o : Int × Int) (ho : ∀ q ∈ p, o.1 ≤ q.Y ∧ q.Y ≤ o.2) : (ref10_Of_L2 p o FUEL [] (-60)).bind (fun l => ref10_Dropped (-60) l) = some (ofS p) := by
  have k := loop_fold (List.range 120) (fun n (l : List Span) x => ref10_Of_L2 p o n l x) (fun x => (x : Int) - 60) (fun x (_ : Nat) l => l ++ [chord p (10 * ((x : Int) - 60)) (10 * ((x : Int) - 60 + 1))]) (fun l => l) (fun x l => l.length = x) (by simp)
    (fun n x l hx hi => by
      have hx' : x < 120 := by simpa using hx
      refine ⟨?_, by simp [hi]⟩
      have e3 : w64 ((x : Int) - 60 + 1) = ((x + 1 : Nat) : Int) - 60 := by rw [w64_id (by omega) (by omega)]; omega
      have k4 : ∀ z, ref10_Of_k4 l ((x : Int) - 60) (ref10_Of_L2 p o n) z = ref10_Of_L2 p o n (l ++ [z]) (((x + 1 : Nat) : Int) - 60) := fun z => by
        unfold ref10_Of_k4
        rw [room_t (by omega), e3]; rfl
      rw [ref10_Of_L2, decide_eq_true (show (x : Int) - 60 < 60 by omega), w64_id (n := (x : Int) - 60 + 1) (by omega) (by omega), w64_id (n := 10 * ((x : Int) - 60)) (by omega) (by omega), w64_id (n := 10 * ((x : Int) - 60 + 1)) (by omega) (by omega)]
      simp only [cond_true, ref10_Of_k3, k4]
      rw [w64_id (n := (x : Int) - 60 + 1) (by omega) (by omega), w64_id (n := 10 * ((x : Int) - 60)) (by omega) (by omega), w64_id (n := 10 * ((x : Int) - 60 + 1)) (by omega) (by omega), refChord_eq]
      simp only [Option.bind_some]
      by_cases c1 : 10 * ((x : Int) - 60) ≥ o.1
      · rw [decide_eq_true c1]
        by_cases c2 : 10 * ((x : Int) - 60 + 1) ≤ o.2
        · rw [decide_eq_true c2]; rfl
        · rw [decide_eq_false c2, chord_out (.inr fun q hq => by have := (ho q hq).2; omega)]; rfl
      · rw [decide_eq_false c1, chord_out (.inl fun q hq => by have := (ho q hq).1; omega)]; rfl)
    (fun n l _ => by
      have e : (((List.range 120).length : Nat) : Int) - 60 = 60 := by rw [List.length_range]; rfl
      simp only [e]
      rw [ref10_Of_L2]; rfl) (i := -60) rfl [] rfl
  rw [foldi_map (fun x (_ : Nat) => chord p (10 * ((x : Int) - 60)) (10 * ((x : Int) - 60 + 1))), List.nil_append] at k
  rw [k.1]
  simp only [Option.bind_some]
  rw [dropped_eq _ (by rw [mapi_len]; simp)]
  have e : secOf (fun j => (mapi (fun x (_ : Nat) => chord p (10 * ((x : Int) - 60)) (10 * ((x : Int) - 60 + 1))) 0 (List.range 120)).getD j default) = ofS p := by
    unfold ofS
    refine secOf_congr (fun j hj => ?_)
    rw [mapi_get _ _ _ _ (by rw [List.length_range]; exact hj), Nat.zero_add]
  rw [e]
noncomputable def ofR (p : List Point) : Section × Int := if chk p = 0 then (if (ofS p).Rows = [] then (nilS, 18) else (ofS p, 0)) else (nilS, chk p)
theorem Of_eq (p : List Point) (hl : p.length ≤ 40) : section_Of p = some (ofR p) ∧ ref10_Of p = some (ofR p) := by
  unfold section_Of ref10_Of ofR
  rw [(chk_eq p).1, (chk_eq p).2, build_of]
  simp only [Option.bind_some]
  by_cases hc : chk p = 0
  · rw [show (chk p != 0) = false by simpa using hc, if_pos hc]
    have h3 : 3 ≤ p.length := by
      refine Classical.byContradiction fun hn => ?_
      unfold chk at hc
      rw [decide_eq_true (show ((p.length : Nat) : Int) < 3 by omega)] at hc
      exact absurd hc (by intro h; simp at h)
    obtain ⟨lo, hi, k1, k2⟩ := of_L1 p (by omega) (p.getD 0 default).Y
    have k3 := of_L2 p (lo, hi) k2
    rw [inb_t (by omega) (by omega)]
    simp only [cond_false, cond_true, Int.toNat_zero, k1, Option.bind_some]
    cases hL : ref10_Of_L2 p (lo, hi) FUEL [] (-60) with
    | none => rw [hL] at k3; cases k3
    | some l =>
      rw [hL] at k3
      simp only [Option.bind_some] at k3 ⊢
      rw [k3]
      simp only [Option.bind_some]
      by_cases he : (ofS p).Rows = []
      · rw [if_pos he, he]; exact ⟨rfl, rfl⟩
      · have e0 : ((((ofS p).Rows.length : Nat) : Int) == 0) = false := by
          have : 0 < (ofS p).Rows.length := List.length_pos_iff.2 he
          rw [beq_eq_false_iff_ne]; omega
        rw [if_neg he, e0]; exact ⟨rfl, rfl⟩
  · rw [show (chk p != 0) = true by simpa using hc, if_neg hc]; exact ⟨rfl, rfl⟩
theorem ofR_VS (p : List Point) : VS (ofR p).1 := by
  unfold ofR
  split
  · split
    · exact VS_nil
    · exact VS_of' p
  · exact VS_nil
theorem SectionOfs_true (p : List Point) {w : Prop} (_ : w) : law10_SectionOfs p = some true := by
  unfold law10_SectionOfs
  by_cases h : ((p.length : Nat) : Int) > 40
  · rw [decide_eq_true h]; simp [awake_true]
  · rw [decide_eq_false h]
    have l1 := (ofR_VS p).len
    simp only [cond_false, (Of_eq p (by omega)).1, (Of_eq p (by omega)).2, Option.bind_some, Section.eta, same_self _ (Nat.le_trans l1 (by decide)), cond_true, beq_self_eq_true, awake_true, law10_SectionOfs_k1]
end Saw
end Go.SL

namespace Go.SL
namespace Saw

def parC (a : List Point) (c : Point) : Nat → Nat → Bool
  | _, 0 => false
  | x, m + 1 => xor (cro (Ep a x) (Eq' a x) c) (parC a c (x + 1) m)
theorem hasS_val (a : List Point) (c : Point) : ∀ (m x : Nat) (b : Bool), ((∃ j, x ≤ j ∧ j < x + m ∧ onE (Ep a j) (Eq' a j) c = true) → Sum.elim id id (hasS a c x m b) = true) ∧ ((∀ j, x ≤ j → j < x + m → onE (Ep a j) (Eq' a j) c = false) → Sum.elim id id (hasS a c x m b) = xor b (parC a c x m))
  | 0, x, b => ⟨fun ⟨j, h1, h2, _⟩ => by omega, fun _ => by simp [hasS, parC]⟩
  | m + 1, x, b => by
    obtain ⟨i1, i2⟩ := hasS_val a c m (x + 1) (bif cro (Ep a x) (Eq' a x) c then !b else b)
    unfold hasS
    cases ho : onE (Ep a x) (Eq' a x) c with
    | true => exact ⟨fun _ => rfl, fun h => by rw [h x (by omega) (by omega)] at ho; cases ho⟩
    | false =>
      simp only [cond_false]
      refine ⟨fun ⟨j, h1, h2, h3⟩ => i1 ⟨j, ?_, by omega, h3⟩, fun h => ?_⟩
      · by_cases e : j = x
        · subst e; rw [ho] at h3; cases h3
        · omega
      · rw [i2 (fun j h1 h2 => h j (by omega) (by omega)), parC]
        cases cro (Ep a x) (Eq' a x) c <;> cases b <;> cases parC a c (x + 1) m <;> rfl
theorem parC_zero {a : List Point} {c : Point} : ∀ (m x : Nat), (∀ j, x ≤ j → j < x + m → cro (Ep a j) (Eq' a j) c = false) → parC a c x m = false
  | 0, _, _ => rfl
  | m + 1, x, h => by rw [parC, h x (by omega) (by omega), parC_zero m (x + 1) (fun j h1 h2 => h j (by omega) (by omega))]; rfl
theorem parC_one {a : List Point} {c : Point} {k : Nat} : ∀ (m x : Nat), x ≤ k → k < x + m → (∀ j, x ≤ j → j < x + m → j ≠ k → cro (Ep a j) (Eq' a j) c = false) → parC a c x m = cro (Ep a k) (Eq' a k) c
  | 0, x, h1, h2, _ => by omega
  | m + 1, x, h1, h2, h => by
    rw [parC]
    by_cases e : x = k
    · subst e; rw [parC_zero m (x + 1) (fun j h3 h4 => h j (by omega) (by omega) (by omega))]; simp
    · rw [h x (by omega) (by omega) e, parC_one m (x + 1) (by omega) (by omega) (fun j h3 h4 h5 => h j (by omega) (by omega) h5)]; simp
theorem parC_two {a : List Point} {c : Point} {k l : Nat} (hkl : k ≠ l) : ∀ (m x : Nat), x ≤ k → k < x + m → x ≤ l → l < x + m → (∀ j, x ≤ j → j < x + m → j ≠ k → j ≠ l → cro (Ep a j) (Eq' a j) c = false) → parC a c x m = xor (cro (Ep a k) (Eq' a k) c) (cro (Ep a l) (Eq' a l) c)
  | 0, x, h1, h2, _, _, _ => by omega
  | m + 1, x, h1, h2, h3, h4, h => by
    rw [parC]
    by_cases e : x = k
    · subst e
      rw [parC_one m (x + 1) (k := l) (by omega) (by omega) (fun j h5 h6 h7 => h j (by omega) (by omega) (by omega) h7)]
    · by_cases e' : x = l
      · subst e'
        rw [parC_one m (x + 1) (k := k) (by omega) (by omega) (fun j h5 h6 h7 => h j (by omega) (by omega) h7 (by omega)), Bool.xor_comm]
      · rw [h x (by omega) (by omega) e e', parC_two hkl m (x + 1) (by omega) (by omega) (by omega) (by omega) (fun j h5 h6 h7 h8 => h j (by omega) (by omega) h7 h8)]; simp
theorem has_val {a : List Point} {c : Point} (h1 : chk a = 0) (h2 : inRange c = true) : ((∃ j, j < a.length ∧ onE (Ep a j) (Eq' a j) c = true) → has a c = true) ∧ ((∀ j, j < a.length → onE (Ep a j) (Eq' a j) c = false) → has a c = parC a c 0 a.length) := by
  obtain ⟨i1, i2⟩ := hasS_val a c a.length 0 false
  unfold has
  rw [show (chk a == 0) = true by simpa using h1, h2]
  simp only [Bool.and_self, cond_true]
  refine ⟨fun ⟨j, hj, ho⟩ => i1 ⟨j, by omega, by omega, ho⟩, fun h => ?_⟩
  rw [i2 (fun j _ hj => h j (by omega))]
  simp

/-! ### The area -/
theorem term_cross (o p q : Point) : term p q = cross o p q + (term o q - term o p) := by unfold term cross; grind
theorem areaS_fan (a : List Point) (o : Point) (hn : 0 < a.length) : ∀ (m x : Nat) (acc : Int), x + m ≤ a.length → ∃ d : Int, areaS09 a x m acc = acc + d + (term o (a.getD ((x + m) % a.length) default) - term o (a.getD (x % a.length) default)) ∧ ((∀ j, x ≤ j → j < x + m → 0 ≤ cross o (Ep a j) (Eq' a j)) → 0 ≤ d ∧ ∀ j, x ≤ j → j < x + m → cross o (Ep a j) (Eq' a j) ≤ d) ∧ ((∀ j, x ≤ j → j < x + m → cross o (Ep a j) (Eq' a j) = 0) → d = 0)
  | 0, x, acc, _ => ⟨0, by unfold areaS09; simp, fun _ => ⟨Int.le_refl _, fun j h1 h2 => by omega⟩, fun _ => rfl⟩
  | m + 1, x, acc, hx => by
    obtain ⟨d, h1, h2, h3⟩ := areaS_fan a o hn m (x + 1) (acc + term (Ep a x) (Eq' a x)) (by omega)
    have ex : Ep a x = a.getD (x % a.length) default := by rw [Nat.mod_eq_of_lt (by omega)]
    refine ⟨d + cross o (Ep a x) (Eq' a x), ?_, fun h => ?_, fun h => ?_⟩
    · unfold areaS09
      rw [h1, term_cross o (Ep a x) (Eq' a x), ex, show x + 1 + m = x + (m + 1) by omega]
      show _ = _
      have : Eq' a x = a.getD ((x + 1) % a.length) default := rfl
      rw [this]
      omega
    · have h0 := h x (by omega) (by omega)
      have k := h2 (fun j h4 h5 => h j (by omega) (by omega))
      refine ⟨by omega, fun j h4 h5 => ?_⟩
      by_cases e : j = x
      · subst e; omega
      · have := k.2 j (by omega) (by omega); omega
    · rw [h3 (fun j h4 h5 => h j (by omega) (by omega)), h x (by omega) (by omega)]; rfl
theorem cross_rot (a b c : Point) : cross a b c = cross b c a := by unfold cross; grind
theorem cvx_area {H : List Point} (hc : Cvx H) : 0 < area H := by
  have hn := hc.n3
  obtain ⟨d, h1, h2, _⟩ := areaS_fan H (Ep H 0) (by omega) H.length 0 0 (by omega)
  have k := h2 (fun j _ hj => by rw [cross_rot]; exact hc.lf j (by omega) _ (getD_mem' (by omega)))
  have t := hc.tn 0 (by omega)
  have e1 : Eq' H 0 = Ep H 1 := by show H.getD ((0 + 1) % H.length) default = _; rw [Nat.mod_eq_of_lt (by omega)]
  have e2 : Ep H ((0 + 2) % H.length) = Eq' H 1 := rfl
  rw [e1, e2] at t
  have := k.2 1 (by omega) (by omega)
  unfold area
  rw [h1]
  simp only [Nat.zero_add, Nat.mod_self, Nat.zero_mod]
  omega
theorem cvx_chk {H : List Point} (hc : Cvx H) (hl : H.length ≤ 32) : chk H = 0 := by
  have hn := hc.n3
  have ha := cvx_area hc
  have hr : H.all inRange = true := List.all_eq_true.2 fun p hp => inRange_iff.2 (hc.rg p hp)
  unfold chk
  rw [decide_eq_false (show ¬ ((H.length : Nat) : Int) < 3 by omega), decide_eq_false (show ¬ ((H.length : Nat) : Int) > 32 by omega), hr, show (area H == 0) = false by rw [beq_eq_false_iff_ne]; omega]
  rfl
end Saw
end Go.SL

namespace Go.SL
namespace Saw

/-- The corner behind, and the edge that ends at a corner. -/
theorem prev_ix {H : List Point} {j : Nat} (hj : j < H.length) : ∃ i, i < H.length ∧ Eq' H i = Ep H j ∧ (i + 2) % H.length = (j + 1) % H.length := by
  by_cases h : j = 0
  · subst h
    refine ⟨H.length - 1, by omega, ?_, ?_⟩
    · show H.getD ((H.length - 1 + 1) % H.length) default = _
      rw [show H.length - 1 + 1 = H.length by omega, Nat.mod_self]
    · rw [show H.length - 1 + 2 = H.length + 1 by omega, Nat.add_mod_left]
  · refine ⟨j - 1, by omega, ?_, by rw [show j - 1 + 2 = j + 1 by omega]⟩
    show H.getD ((j - 1 + 1) % H.length) default = _
    rw [show j - 1 + 1 = j by omega, Nat.mod_eq_of_lt hj]
theorem col_id1 (p q w z : Point) : (q.Y - p.Y) * cross w z p = -((w.Y - p.Y) * ((z.X - w.X) * (q.Y - p.Y) - (q.X - p.X) * (z.Y - w.Y)) + cross p q w * (z.Y - w.Y)) := by unfold cross; grind
theorem col_id2 (p q w z : Point) : (q.Y - p.Y) * cross w z q = (q.Y - w.Y) * ((z.X - w.X) * (q.Y - p.Y) - (q.X - p.X) * (z.Y - w.Y)) - cross p q w * (z.Y - w.Y) := by unfold cross; grind
theorem col_id3 (p q w z : Point) : (q.Y - p.Y) * cross z w p = -((w.Y - p.Y) * ((w.X - z.X) * (q.Y - p.Y) - (q.X - p.X) * (w.Y - z.Y)) + cross p q w * (w.Y - z.Y)) := by unfold cross; grind
theorem col_id4 (p q w z : Point) : (q.Y - p.Y) * cross z w q = (q.Y - w.Y) * ((w.X - z.X) * (q.Y - p.Y) - (q.X - p.X) * (w.Y - z.Y)) - cross p q w * (w.Y - z.Y) := by unfold cross; grind
theorem col_id5 (p q w z y : Point) : (q.Y - p.Y) * cross z w y = (y.Y - w.Y) * ((w.X - z.X) * (q.Y - p.Y) - (q.X - p.X) * (w.Y - z.Y)) - (w.Y - z.Y) * ((y.X - w.X) * (q.Y - p.Y) - (q.X - p.X) * (y.Y - w.Y)) := by unfold cross; grind
theorem sign_zero {a b E : Int} (ha : 0 < a) (hb : 0 < b) (h1 : 0 ≤ -(a * E)) (h2 : 0 ≤ b * E) : E = 0 := by
  rcases Int.lt_trichotomy E 0 with h | h | h
  · have := Int.mul_pos hb (show 0 < -E by omega); rw [Int.mul_neg] at this; omega
  · exact h
  · have := Int.mul_pos ha h; omega
/-- A corner strictly within an edge can't turn. -/
theorem col_within {p q w wn wp : Point} (h0 : cross p q w = 0) (h1 : p.Y < w.Y) (h2 : w.Y < q.Y) (a1 : 0 ≤ cross w wn p) (a2 : 0 ≤ cross w wn q) (b1 : 0 ≤ cross wp w p) (b2 : 0 ≤ cross wp w q) (t : 0 < cross wp w wn) : False := by
  have d : 0 ≤ q.Y - p.Y := by omega
  have i1 := col_id1 p q w wn
  have i2 := col_id2 p q w wn
  have i3 := col_id3 p q w wp
  have i4 := col_id4 p q w wp
  have i5 := col_id5 p q w wp wn
  rw [h0, Int.zero_mul] at i1 i2 i3 i4
  have m1 := Int.mul_nonneg d a1
  have m2 := Int.mul_nonneg d a2
  have m3 := Int.mul_nonneg d b1
  have m4 := Int.mul_nonneg d b2
  have m5 := Int.mul_pos (show 0 < q.Y - p.Y by omega) t
  have E := sign_zero (a := w.Y - p.Y) (b := q.Y - w.Y) (E := (wn.X - w.X) * (q.Y - p.Y) - (q.X - p.X) * (wn.Y - w.Y)) (by omega) (by omega) (by omega) (by omega)
  have F := sign_zero (a := w.Y - p.Y) (b := q.Y - w.Y) (E := (w.X - wp.X) * (q.Y - p.Y) - (q.X - p.X) * (w.Y - wp.Y)) (by omega) (by omega) (by omega) (by omega)
  rw [E, F] at i5
  simp at i5
  omega
/-- Only the two ends of an edge that goes up lie on its line. -/
theorem col_corner {H : List Point} (hc : Cvx H) {j : Nat} (hj : j < H.length) (hup : (Ep H j).Y < (Eq' H j).Y) {w : Point} (hw : w ∈ H) (h0 : cross (Ep H j) (Eq' H j) w = 0) : w.Y = (Ep H j).Y ∨ w.Y = (Eq' H j).Y := by
  have hn := hc.n3
  have hj1 : (j + 1) % H.length < H.length := Nat.mod_lt _ (by omega)
  -- the next edge
  have t1 := hc.tn j hj
  have l1 := hc.lf _ hj1 w hw
  have i1 := nxt_ix hc hj
  rw [i1.1, i1.2] at l1
  -- the edge before
  obtain ⟨i, hi, e1, e2⟩ := prev_ix hj
  have t2 := hc.tn i hi
  have l2 := hc.lf i hi w hw
  rw [e1, e2] at t2
  rw [e1] at l2
  -- w's own edges
  obtain ⟨m, hm, ew⟩ := mem_ix hw
  obtain ⟨k, hk, f1, f2⟩ := prev_ix hm
  have t3 := hc.tn k hk
  rw [f1, f2, ew] at t3
  have pm : Ep H j ∈ H := getD_mem' hj
  have qm : Eq' H j ∈ H := getD_mem' hj1
  have a1 := hc.lf m hm _ pm
  have a2 := hc.lf m hm _ qm
  have b1 := hc.lf k hk _ pm
  have b2 := hc.lf k hk _ qm
  rw [ew] at a1 a2
  rw [f1, ew] at b1 b2
  have eqm : Ep H ((m + 1) % H.length) = Eq' H m := rfl
  rw [eqm] at t3
  have eqj : Ep H ((j + 1) % H.length) = Eq' H j := rfl
  rw [eqj] at t2
  generalize Ep H j = p at *
  generalize Eq' H j = q at *
  generalize Ep H ((j + 2) % H.length) = r at *
  generalize Ep H i = o at *
  generalize Eq' H m = wn at *
  generalize Ep H k = wp at *
  have d : 0 < q.Y - p.Y := by omega
  have id1 : (q.Y - p.Y) * cross q r w = (q.Y - w.Y) * cross p q r + (r.Y - q.Y) * cross p q w := by unfold cross; grind
  have id2 : (q.Y - p.Y) * cross o p w = (w.Y - p.Y) * cross o p q + (p.Y - o.Y) * cross p q w := by unfold cross; grind
  rw [h0] at id1 id2
  simp only [Int.mul_zero, Int.add_zero] at id1 id2
  have g1 : w.Y ≤ q.Y := by
    refine Classical.byContradiction fun hn' => ?_
    have x1 := Int.mul_nonneg (Int.le_of_lt d) l1
    have x2 := Int.mul_pos (show 0 < -(q.Y - w.Y) by omega) t1
    rw [Int.neg_mul] at x2
    omega
  have g2 : p.Y ≤ w.Y := by
    refine Classical.byContradiction fun hn' => ?_
    have x1 := Int.mul_nonneg (Int.le_of_lt d) l2
    have x2 := Int.mul_pos (show 0 < -(w.Y - p.Y) by omega) t2
    rw [Int.neg_mul] at x2
    omega
  refine Classical.byContradiction fun hn' => ?_
  rw [not_or] at hn'
  exact col_within h0 (by omega) (by omega) a1 a2 b1 b2 t3
theorem same_pt {p q w v : Point} (hY : p.Y < q.Y) (h1 : cross p q w = 0) (h2 : cross p q v = 0) (h3 : w.Y = v.Y) : w = v := by
  have e : (q.Y - p.Y) * (w.X - v.X) = 0 := by
    have : (q.Y - p.Y) * (w.X - v.X) = cross p q v - cross p q w + (q.X - p.X) * (w.Y - v.Y) := by unfold cross; grind
    rw [this, h1, h2, h3]; simp
  rcases Int.mul_eq_zero.1 e with h | h
  · omega
  · cases w; cases v
    simp only [Point.mk.injEq]
    simp only at h h3
    omega
theorem up_id (a b c d : Point) (t : Int) : ((d.Y - t) * cross a b c + (t - c.Y) * cross a b d) + ((b.Y - t) * cross c d a + (t - a.Y) * cross c d b) = 0 := by unfold cross; grind
theorem nodup_ix {H : List Point} (hd : H.Nodup) {j k : Nat} (hj : j < H.length) (hk : k < H.length) (h : Ep H j = Ep H k) : j = k := by
  have e1 : H[j] = H[k] := by rw [← getD_el' hj, ← getD_el' hk]; exact h
  rcases Nat.lt_trichotomy j k with hlt | heq | hlt
  · exact absurd e1 (List.pairwise_iff_getElem.1 hd j k hj hk hlt)
  · exact heq
  · exact absurd e1.symm (List.pairwise_iff_getElem.1 hd k j hk hj hlt)
/-- Two edges that go up over the same unit of height are one. -/
theorem up_one {H : List Point} (hc : Cvx H) (hd : H.Nodup) {j k : Nat} (hj : j < H.length) (hk : k < H.length) {t : Int} (j1 : (Ep H j).Y ≤ t) (j2 : t + 1 ≤ (Eq' H j).Y) (k1 : (Ep H k).Y ≤ t) (k2 : t + 1 ≤ (Eq' H k).Y) : j = k := by
  have hn := hc.n3
  have pm : ∀ i, i < H.length → Ep H i ∈ H := fun i hi => getD_mem' hi
  have qm : ∀ i, Eq' H i ∈ H := fun i => getD_mem' (Nat.mod_lt _ (by omega))
  have A1 := hc.lf j hj _ (pm k hk)
  have A2 := hc.lf j hj _ (qm k)
  have B1 := hc.lf k hk _ (pm j hj)
  have B2 := hc.lf k hk _ (qm j)
  have zero : ∀ s, (Ep H j).Y ≤ s → s ≤ (Eq' H j).Y → (Ep H k).Y ≤ s → s ≤ (Eq' H k).Y → ((Eq' H k).Y - s) * cross (Ep H j) (Eq' H j) (Ep H k) + (s - (Ep H k).Y) * cross (Ep H j) (Eq' H j) (Eq' H k) = 0 := fun s s1 s2 s3 s4 => by
    have e := up_id (Ep H j) (Eq' H j) (Ep H k) (Eq' H k) s
    have x1 := Int.mul_nonneg (show 0 ≤ (Eq' H k).Y - s by omega) A1
    have x2 := Int.mul_nonneg (show 0 ≤ s - (Ep H k).Y by omega) A2
    have x3 := Int.mul_nonneg (show 0 ≤ (Eq' H j).Y - s by omega) B1
    have x4 := Int.mul_nonneg (show 0 ≤ s - (Ep H j).Y by omega) B2
    omega
  have z1 := zero t (by omega) (by omega) (by omega) (by omega)
  have z2 := zero (t + 1) (by omega) (by omega) (by omega) (by omega)
  have c1 : cross (Ep H j) (Eq' H j) (Ep H k) = 0 := by
    have x1 := Int.mul_nonneg (show 0 ≤ (Eq' H k).Y - t by omega) A1
    have x2 := Int.mul_nonneg (show 0 ≤ t - (Ep H k).Y by omega) A2
    rcases Int.mul_eq_zero.1 (show ((Eq' H k).Y - t) * cross (Ep H j) (Eq' H j) (Ep H k) = 0 by omega) with h | h
    · omega
    · exact h
  have c2 : cross (Ep H j) (Eq' H j) (Eq' H k) = 0 := by
    have x1 := Int.mul_nonneg (show 0 ≤ (Eq' H k).Y - (t + 1) by omega) A1
    have x2 := Int.mul_nonneg (show 0 ≤ t + 1 - (Ep H k).Y by omega) A2
    rcases Int.mul_eq_zero.1 (show (t + 1 - (Ep H k).Y) * cross (Ep H j) (Eq' H j) (Eq' H k) = 0 by omega) with h | h
    · omega
    · exact h
  have y1 := col_corner hc hj (by omega) (pm k hk) c1
  have y2 := col_corner hc hj (by omega) (qm k) c2
  have e := same_pt (p := Ep H j) (q := Eq' H j) (w := Ep H k) (v := Ep H j) (by omega) c1 (cross_self_l _ _) (by omega)
  exact (nodup_ix hd hk hj e).symm
theorem cvx_ng {H : List Point} (hc : Cvx H) : Cvx (H.map ng) := by
  have hn := hc.n3
  have ix : ∀ i, Ep (H.map ng) i = ng (Ep H i) := fun i => by
    show (H.map ng).getD i default = ng (H.getD i default)
    by_cases hi : i < H.length
    · exact getD_map ng H hi
    · rw [List.getD_eq_getElem?_getD, List.getD_eq_getElem?_getD, List.getElem?_eq_none (by simpa using hi), List.getElem?_eq_none (by omega)]; rfl
  have ix2 : ∀ i, Eq' (H.map ng) i = ng (Eq' H i) := fun i => by
    show (H.map ng).getD ((i + 1) % (H.map ng).length) default = _
    rw [List.length_map]; exact ix _
  refine ⟨by simpa using hn, fun p hp => ?_, fun x hx p hp => ?_, fun x hx => ?_⟩
  · obtain ⟨q, hq, rfl⟩ := List.mem_map.1 hp
    have := hc.rg q hq
    unfold ng rng at *
    simp only
    omega
  · obtain ⟨q, hq, rfl⟩ := List.mem_map.1 hp
    rw [ix, ix2, cross_ng]
    exact hc.lf x (by simpa using hx) q hq
  · rw [ix, ix2, List.length_map, ix, cross_ng]
    exact hc.tn x (by simpa using hx)
theorem ep_ng (H : List Point) (i : Nat) : Ep (H.map ng) i = ng (Ep H i) := by
  show (H.map ng).getD i default = ng (H.getD i default)
  by_cases hi : i < H.length
  · exact getD_map ng H hi
  · rw [List.getD_eq_getElem?_getD, List.getD_eq_getElem?_getD, List.getElem?_eq_none (by simpa using hi), List.getElem?_eq_none (by omega)]; rfl
theorem eq_ng (H : List Point) (i : Nat) : Eq' (H.map ng) i = ng (Eq' H i) := by
  show (H.map ng).getD ((i + 1) % (H.map ng).length) default = _
  rw [List.length_map]; exact ep_ng H _
theorem nodup_ng {H : List Point} (hd : H.Nodup) : (H.map ng).Nodup := by
  rw [List.Nodup, List.pairwise_map]
  exact hd.imp (fun h e => h (by have := congrArg ng e; rwa [ng_ng, ng_ng] at this))
/-- Two edges that go down over the same unit of height are one. -/
theorem dn_one {H : List Point} (hc : Cvx H) (hd : H.Nodup) {j k : Nat} (hj : j < H.length) (hk : k < H.length) {t : Int} (j1 : (Eq' H j).Y ≤ t) (j2 : t + 1 ≤ (Ep H j).Y) (k1 : (Eq' H k).Y ≤ t) (k2 : t + 1 ≤ (Ep H k).Y) : j = k := by
  have ny : ∀ p : Point, (ng p).Y = -p.Y := fun _ => rfl
  refine up_one (cvx_ng hc) (nodup_ng hd) (by simpa using hj) (by simpa using hk) (t := -(t + 1)) ?_ ?_ ?_ ?_
  · rw [ep_ng, ny]; omega
  · rw [eq_ng, ny]; omega
  · rw [ep_ng, ny]; omega
  · rw [eq_ng, ny]; omega
/-- Between a corner at most as high and a higher one some edge goes up, and some edge goes down. -/
theorem half_ex {H : List Point} {y : Int} {p q : Point} (hp : p ∈ H) (hq : q ∈ H) (h1 : p.Y ≤ y) (h2 : y < q.Y) : (∃ j, j < H.length ∧ (Ep H j).Y ≤ y ∧ y < (Eq' H j).Y) ∧ (∃ j, j < H.length ∧ (Eq' H j).Y ≤ y ∧ y < (Ep H j).Y) := by
  obtain ⟨i, hi, ei⟩ := mem_ix hp
  obtain ⟨k, hk, ek⟩ := mem_ix hq
  constructor
  · refine Classical.byContradiction fun hno => ?_
    have := cyc_all (P := fun x => (Ep H x).Y ≤ y) hi (by rw [ei]; exact h1) (fun x hx h => Classical.byContradiction fun h' => hno ⟨x, hx, h, by
      have : (Ep H ((x + 1) % H.length)).Y = (Eq' H x).Y := rfl
      omega⟩)
    have := this k hk
    rw [ek] at this
    omega
  · refine Classical.byContradiction fun hno => ?_
    have := cyc_all (P := fun x => y < (Ep H x).Y) hk (by rw [ek]; exact h2) (fun x hx h => Classical.byContradiction fun h' => hno ⟨x, hx, by
      have : (Ep H ((x + 1) % H.length)).Y = (Eq' H x).Y := rfl
      omega, h⟩)
    have := this i hi
    rw [ei] at this
    omega
end Saw
end Go.SL

namespace Go.SL
namespace Saw

theorem onE_iff {p q c : Point} : onE p q c = true ↔ cross p q c = 0 ∧ imin p.X q.X ≤ c.X ∧ c.X ≤ imax p.X q.X ∧ imin p.Y q.Y ≤ c.Y ∧ c.Y ≤ imax p.Y q.Y := by
  unfold onE; simp
theorem imin_c (a b : Int) : (imin a b = a ∧ a ≤ b) ∨ (imin a b = b ∧ b ≤ a) := by unfold imin; split <;> omega
theorem imax_c (a b : Int) : (imax a b = a ∧ b ≤ a) ∨ (imax a b = b ∧ a ≤ b) := by unfold imax; split <;> omega
theorem lin_idx (al be c0 : Int) (p q : Point) (X y : Int) : (q.X - p.X) * lin al be c0 ⟨X, y⟩ = (q.X - X) * lin al be c0 p + (X - p.X) * lin al be c0 q + be * cross p q ⟨X, y⟩ := by unfold lin cross; grind
theorem mul_nn {d v : Int} (hd : 0 < d) (h : 0 ≤ d * v) : 0 ≤ v := by
  refine Classical.byContradiction fun hn => ?_
  have := Int.mul_pos hd (show 0 < -v by omega)
  rw [Int.mul_neg] at this
  omega
theorem seg_lin {al be c0 : Int} {p q c : Point} (ho : onE p q c = true) (hp : 0 ≤ lin al be c0 p) (hq : 0 ≤ lin al be c0 q) : 0 ≤ lin al be c0 c := by
  obtain ⟨h0, h1, h2, h3, h4⟩ := onE_iff.1 ho
  have m1 := imin_c p.X q.X
  have m2 := imax_c p.X q.X
  have m3 := imin_c p.Y q.Y
  have m4 := imax_c p.Y q.Y
  obtain ⟨X, y⟩ := c
  simp only at h1 h2 h3 h4
  have iy := lin_id al be c0 p q X y
  have ix := lin_idx al be c0 p q X y
  rw [h0, Int.mul_zero] at iy ix
  rcases Int.lt_trichotomy p.Y q.Y with c | c | c
  · have a1 := Int.mul_nonneg (show 0 ≤ q.Y - y by omega) hp
    have a2 := Int.mul_nonneg (show 0 ≤ y - p.Y by omega) hq
    exact mul_nn (show 0 < q.Y - p.Y by omega) (by omega)
  · rcases Int.lt_trichotomy p.X q.X with d | d | d
    · have a1 := Int.mul_nonneg (show 0 ≤ q.X - X by omega) hp
      have a2 := Int.mul_nonneg (show 0 ≤ X - p.X by omega) hq
      exact mul_nn (show 0 < q.X - p.X by omega) (by omega)
    · have ex : X = p.X := by omega
      have ey : y = p.Y := by omega
      rw [ex, ey]; exact hp
    · have a1 := Int.mul_nonneg (show 0 ≤ -(q.X - X) by omega) hp
      have a2 := Int.mul_nonneg (show 0 ≤ -(X - p.X) by omega) hq
      rw [Int.neg_mul] at a1 a2
      refine mul_nn (show 0 < -(q.X - p.X) by omega) ?_
      rw [Int.neg_mul]; omega
  · have a1 := Int.mul_nonneg (show 0 ≤ -(q.Y - y) by omega) hp
    have a2 := Int.mul_nonneg (show 0 ≤ -(y - p.Y) by omega) hq
    rw [Int.neg_mul] at a1 a2
    refine mul_nn (show 0 < -(q.Y - p.Y) by omega) ?_
    rw [Int.neg_mul]; omega
theorem onE_in {H : List Point} (hc : Cvx H) {j : Nat} (hj : j < H.length) {c : Point} (ho : onE (Ep H j) (Eq' H j) c = true) : inH H c.X c.Y := by
  have hn := hc.n3
  intro i hi
  have e : (⟨c.X, c.Y⟩ : Point) = c := rfl
  rw [e, cross_lin]
  refine seg_lin ho ?_ ?_
  · rw [← cross_lin]; exact hc.lf i hi _ (getD_mem' hj)
  · rw [← cross_lin]; exact hc.lf i hi _ (getD_mem' (Nat.mod_lt _ (by omega)))
/-- On the line of an edge, between its heights. -/
theorem on_up {p q c : Point} (hpq : p.Y < q.Y) (h1 : p.Y ≤ c.Y) (h2 : c.Y ≤ q.Y) (h0 : cross p q c = 0) : onE p q c = true ∧ onE q p c = true := by
  have e : (q.Y - p.Y) * (c.X - p.X) = (q.X - p.X) * (c.Y - p.Y) := by unfold cross at h0; grind
  have e' : (q.Y - p.Y) * (q.X - c.X) = (q.X - p.X) * (q.Y - c.Y) := by unfold cross at h0; grind
  have d : 0 < q.Y - p.Y := by omega
  have m1 := imin_c p.X q.X
  have m2 := imax_c p.X q.X
  have m3 := imin_c p.Y q.Y
  have m4 := imax_c p.Y q.Y
  have n1 := imin_c q.X p.X
  have n2 := imax_c q.X p.X
  have n3 := imin_c q.Y p.Y
  have n4 := imax_c q.Y p.Y
  have h0' : cross q p c = 0 := by rw [cross_neg, h0]; rfl
  rw [onE_iff, onE_iff]
  rcases Int.le_total p.X q.X with c1 | c1
  · have a1 := mul_nn d (v := c.X - p.X) (by rw [e]; exact Int.mul_nonneg (by omega) (by omega))
    have a2 := mul_nn d (v := q.X - c.X) (by rw [e']; exact Int.mul_nonneg (by omega) (by omega))
    exact ⟨⟨h0, by omega, by omega, by omega, by omega⟩, h0', by omega, by omega, by omega, by omega⟩
  · have a1 := mul_nn d (v := -(c.X - p.X)) (by rw [Int.mul_neg, e, ← Int.neg_mul]; exact Int.mul_nonneg (by omega) (by omega))
    have a2 := mul_nn d (v := -(q.X - c.X)) (by rw [Int.mul_neg, e', ← Int.neg_mul]; exact Int.mul_nonneg (by omega) (by omega))
    exact ⟨⟨h0, by omega, by omega, by omega, by omega⟩, h0', by omega, by omega, by omega, by omega⟩
theorem onE_end (p q : Point) : onE p q q = true ∧ onE p q p = true := by
  have m1 := imin_c p.X q.X
  have m2 := imax_c p.X q.X
  have m3 := imin_c p.Y q.Y
  have m4 := imax_c p.Y q.Y
  rw [onE_iff, onE_iff]
  exact ⟨⟨cross_self_r _ _, by omega, by omega, by omega, by omega⟩, cross_self_l _ _, by omega, by omega, by omega, by omega⟩
/-- At the top. -/
theorem top_on {H : List Point} (hc : Cvx H) {X y : Int} (h : inH H X y) (htop : ∀ p ∈ H, p.Y ≤ y) {lo hi : Point} (hlo : lo ∈ H) (hhi : hi ∈ H) (h1 : lo.Y ≤ y) (h2 : y ≤ hi.Y) : ∃ j, j < H.length ∧ onE (Ep H j) (Eq' H j) ⟨X, y⟩ = true := by
  have hn := hc.n3
  obtain ⟨j, hj, sj⟩ := span_up hc hlo hhi h1 h2
  have hj1 : (j + 1) % H.length < H.length := Nat.mod_lt _ (by omega)
  have hj2 : ((j + 1) % H.length + 1) % H.length < H.length := Nat.mod_lt _ (by omega)
  obtain ⟨s1, s2, s3⟩ := sj
  have i1 := nxt_ix hc hj
  have cj := h j hj
  have cj1 := h _ hj1
  have cj2 := h _ hj2
  have tj := hc.tn j hj
  have tj1 := hc.tn _ hj1
  have zq : (Eq' H j).Y ≤ y := htop _ (getD_mem' hj1)
  have zr : (Ep H (((j + 1) % H.length + 1) % H.length)).Y ≤ y := htop _ (getD_mem' hj2)
  have zs : (Eq' H (((j + 1) % H.length + 1) % H.length)).Y ≤ y := htop _ (getD_mem' (Nat.mod_lt _ (by omega)))
  have er : Ep H (((j + 1) % H.length + 1) % H.length) = Ep H ((j + 2) % H.length) := i1.2
  have es : Eq' H ((j + 1) % H.length) = Ep H (((j + 1) % H.length + 1) % H.length) := rfl
  rw [i1.1, es] at cj1
  rw [i1.1, es] at tj1
  have e3 : Ep H (((j + 1) % H.length + 2) % H.length) = Eq' H (((j + 1) % H.length + 1) % H.length) := by
    show H.getD (((j + 1) % H.length + 2) % H.length) default = H.getD ((((j + 1) % H.length + 1) % H.length + 1) % H.length) default
    rw [Nat.mod_add_mod ((j + 1) % H.length + 1)]
  rw [e3] at tj1
  rw [← er] at tj
  -- the edge j+1
  by_cases hz : (Ep H (((j + 1) % H.length + 1) % H.length)).Y = y
  · -- a horizontal edge at the top
    refine ⟨(j + 1) % H.length, hj1, ?_⟩
    rw [i1.1, es, onE_iff]
    generalize Ep H j = p at *
    generalize Eq' H j = q at *
    generalize Ep H (((j + 1) % H.length + 1) % H.length) = r at *
    generalize Eq' H (((j + 1) % H.length + 1) % H.length) = t at *
    have hq : q.Y = y := by omega
    have x1 : X ≤ q.X := by
      have : cross p q ⟨X, y⟩ = (q.Y - p.Y) * (q.X - X) := by unfold cross; simp only; rw [← hq]; grind
      rw [this] at cj
      have := mul_nn (show 0 < q.Y - p.Y by omega) cj
      omega
    have rq : r.X < q.X := by
      have : cross p q r = (q.Y - p.Y) * (q.X - r.X) := by unfold cross; rw [hz, ← hq]; grind
      rw [this] at tj
      refine Classical.byContradiction fun hn' => ?_
      have := Int.mul_nonneg (show 0 ≤ q.Y - p.Y by omega) (show 0 ≤ -(q.X - r.X) by omega)
      rw [Int.mul_neg] at this
      omega
    have tY : t.Y < y := by
      have : cross q r t = (q.X - r.X) * (y - t.Y) := by unfold cross; rw [hz, hq]; grind
      rw [this] at tj1
      refine Classical.byContradiction fun hn' => ?_
      have := Int.mul_nonneg (show 0 ≤ q.X - r.X by omega) (show 0 ≤ -(y - t.Y) by omega)
      rw [Int.mul_neg] at this
      omega
    have x2 : r.X ≤ X := by
      have : cross r t ⟨X, y⟩ = (y - t.Y) * (X - r.X) := by unfold cross; simp only; rw [hz]; grind
      rw [this] at cj2
      have := mul_nn (show 0 < y - t.Y by omega) cj2
      omega
    have m1 := imin_c q.X r.X
    have m2 := imax_c q.X r.X
    have m3 := imin_c q.Y r.Y
    have m4 := imax_c q.Y r.Y
    refine ⟨?_, by simp only; omega, by simp only; omega, by simp only; omega, by simp only; omega⟩
    unfold cross
    rw [hz, hq]
    simp
  · -- the top is one corner
    refine ⟨j, hj, ?_⟩
    generalize Ep H j = p at *
    generalize Eq' H j = q at *
    generalize Ep H (((j + 1) % H.length + 1) % H.length) = r at *
    have hq : q.Y = y := by omega
    have x1 : X ≤ q.X := by
      have : cross p q ⟨X, y⟩ = (q.Y - p.Y) * (q.X - X) := by unfold cross; simp only; rw [← hq]; grind
      rw [this] at cj
      have := mul_nn (show 0 < q.Y - p.Y by omega) cj
      omega
    have x2 : q.X ≤ X := by
      have : cross q r ⟨X, y⟩ = (q.Y - r.Y) * (X - q.X) := by unfold cross; simp only; rw [← hq]; grind
      rw [this] at cj1
      have := mul_nn (show 0 < q.Y - r.Y by omega) cj1
      omega
    have e : (⟨X, y⟩ : Point) = q := by
      cases q
      simp only [Point.mk.injEq]
      simp only at hq x1 x2
      omega
    rw [e]
    exact (onE_end p q).1
/-- Left of the edge that goes down: right of nothing. -/
theorem dn_up {p q p' q' : Point} {X y : Int} (hu : p.Y < q.Y) (hd : spD p' q' y) (h1 : 0 ≤ cross p q p') (h2 : 0 ≤ cross p q q') (h3 : cross p' q' ⟨X, y⟩ < 0) : 0 < cross p q ⟨X, y⟩ := by
  obtain ⟨d1, d2, d3⟩ := hd
  have e := lin_id (-(q.Y - p.Y)) (q.X - p.X) (p.X * (q.Y - p.Y) - (q.X - p.X) * p.Y) p' q' X y
  rw [← cross_lin, ← cross_lin, ← cross_lin] at e
  have a1 := Int.mul_nonneg (show 0 ≤ -(q'.Y - y) by omega) h1
  have a2 := Int.mul_nonneg (show 0 ≤ -(y - p'.Y) by omega) h2
  have a3 := Int.mul_pos (show 0 < q.Y - p.Y by omega) (show 0 < -cross p' q' ⟨X, y⟩ by omega)
  rw [Int.neg_mul] at a1 a2
  rw [Int.mul_neg] at a3
  rw [Int.neg_mul] at e
  refine Classical.byContradiction fun hn => ?_
  have a4 := Int.mul_nonneg (show 0 ≤ -(q'.Y - p'.Y) by omega) (show 0 ≤ -cross p q ⟨X, y⟩ by omega)
  rw [Int.neg_mul_neg] at a4
  omega
theorem cro_iff {p q c : Point} : cro p q c = true ↔ (p.Y ≤ c.Y ∧ c.Y < q.Y ∧ 0 < cross p q c) ∨ (q.Y ≤ c.Y ∧ c.Y < p.Y ∧ cross p q c < 0) := by unfold cro; simp
theorem has_cvx {H : List Point} (hc : Cvx H) (hd : H.Nodup) (hl : H.length ≤ 32) {c : Point} (hr : inRange c = true) : has H c = true ↔ inH H c.X c.Y := by
  obtain ⟨v1, v2⟩ := has_val (cvx_chk hc hl) hr
  have hn := hc.n3
  have hne : H ≠ [] := fun e => by rw [e] at hn; simp at hn
  have hb := bounds_YB hne
  obtain ⟨plo, mlo, elo⟩ := hb.lo
  obtain ⟨phi, mhi, ehi⟩ := hb.hi
  have pm : ∀ i, i < H.length → Ep H i ∈ H := fun i hi => getD_mem' hi
  have qm : ∀ i, Eq' H i ∈ H := fun i => getD_mem' (Nat.mod_lt _ (by omega))
  have ec : (⟨c.X, c.Y⟩ : Point) = c := rfl
  by_cases hon : ∃ j, j < H.length ∧ onE (Ep H j) (Eq' H j) c = true
  · obtain ⟨j, hj, ho⟩ := hon
    exact ⟨fun _ => onE_in hc hj ho, fun _ => v1 ⟨j, hj, ho⟩⟩
  have hno : ∀ j, j < H.length → onE (Ep H j) (Eq' H j) c = false := fun j hj => by
    cases ho : onE (Ep H j) (Eq' H j) c with
    | false => rfl
    | true => exact absurd ⟨j, hj, ho⟩ hon
  rw [v2 hno]
  by_cases hy : (bounds H).Y.A ≤ c.Y ∧ c.Y < (bounds H).Y.B
  · obtain ⟨⟨u, hu, u1, u2⟩, d, hd', d1, d2⟩ := half_ex mlo mhi (show plo.Y ≤ c.Y by omega) (show c.Y < phi.Y by omega)
    have hud : u ≠ d := fun e => by subst e; omega
    have oth : ∀ j, 0 ≤ j → j < 0 + H.length → j ≠ u → j ≠ d → cro (Ep H j) (Eq' H j) c = false := fun j _ hj nu nd => by
      cases hcr : cro (Ep H j) (Eq' H j) c with
      | false => rfl
      | true =>
        rcases cro_iff.1 hcr with ⟨c1, c2, _⟩ | ⟨c1, c2, _⟩
        · exact absurd (up_one hc hd (by omega) hu (t := c.Y) c1 (by omega) u1 (by omega)) nu
        · exact absurd (dn_one hc hd (by omega) hd' (t := c.Y) c1 (by omega) d1 (by omega)) nd
    rw [parC_two hud H.length 0 (by omega) (by omega) (by omega) (by omega) oth]
    have su : spU (Ep H u) (Eq' H u) c.Y := ⟨by omega, by omega, by omega⟩
    have sd : spD (Ep H d) (Eq' H d) c.Y := ⟨by omega, by omega, by omega⟩
    have key : inH H c.X c.Y ↔ 0 ≤ cross (Ep H u) (Eq' H u) c ∧ 0 ≤ cross (Ep H d) (Eq' H d) c := by
      refine ⟨fun h => ⟨h u hu, h d hd'⟩, fun ⟨h1, h2⟩ i hi => ?_⟩
      rw [cross_lin]
      refine lin_two su sd ?_ ?_ ?_ ?_ h1 h2
      · rw [← cross_lin]; exact hc.lf i hi _ (pm u hu)
      · rw [← cross_lin]; exact hc.lf i hi _ (qm u)
      · rw [← cross_lin]; exact hc.lf i hi _ (pm d hd')
      · rw [← cross_lin]; exact hc.lf i hi _ (qm d)
    have cu : cro (Ep H u) (Eq' H u) c = decide (0 < cross (Ep H u) (Eq' H u) c) := by
      rw [Bool.eq_iff_iff, cro_iff, decide_eq_true_eq]; omega
    have cd : cro (Ep H d) (Eq' H d) c = decide (cross (Ep H d) (Eq' H d) c < 0) := by
      rw [Bool.eq_iff_iff, cro_iff, decide_eq_true_eq]; omega
    have nzu : cross (Ep H u) (Eq' H u) c ≠ 0 := fun e => by
      have := (on_up su.1 su.2.1 su.2.2 e).1
      rw [hno u hu] at this; cases this
    rw [key, cu, cd]
    by_cases hdn : cross (Ep H d) (Eq' H d) c < 0
    · have := dn_up (X := c.X) su.1 sd (hc.lf u hu _ (pm d hd')) (hc.lf u hu _ (qm d)) hdn
      rw [ec] at this
      rw [decide_eq_true hdn, decide_eq_true this]
      refine ⟨fun h => absurd h (by decide), fun h => by omega⟩
    · rw [decide_eq_false hdn]
      by_cases hup : 0 < cross (Ep H u) (Eq' H u) c
      · rw [decide_eq_true hup]; exact ⟨fun _ => ⟨by omega, by omega⟩, fun _ => rfl⟩
      · rw [decide_eq_false hup]; exact ⟨fun h => absurd h (by decide), fun h => by omega⟩
  · have par0 : parC H c 0 H.length = false := parC_zero H.length 0 (fun j _ hj => by
      cases hcr : cro (Ep H j) (Eq' H j) c with
      | false => rfl
      | true =>
        have a1 := hb.all _ (pm j (by omega))
        have a2 := hb.all _ (qm j)
        rcases cro_iff.1 hcr with ⟨c1, c2, _⟩ | ⟨c1, c2, _⟩ <;> omega)
    rw [par0]
    refine ⟨fun h => absurd h (by decide), fun h => ?_⟩
    have yb := in_YB hc hb h
    obtain ⟨j, hj, ho⟩ := top_on hc h (fun p hp => by have := (hb.all p hp).2; omega) mlo mhi (by omega) (by omega)
    rw [hno j hj] at ho
    cases ho
end Saw
end Go.SL
