/- Poly's plain mathematics, part 31: the hull of points among which its corners are. -/
import Derived.Test.YtjelipmghgcpeaaSMa6
import Derived.Test.YtjelipmghgcpeaaSMa3
set_option linter.unusedVariables false
set_option linter.unusedSimpArgs false
namespace Go.SL
namespace Saw

theorem leftF_mem {a b : List Point} (h : ∀ p, p ∈ b → p ∈ a) : ∀ {st : List Point}, LeftF a st → LeftF b st
  | [], _ => trivial
  | [_], _ => trivial
  | _ :: _ :: _, ⟨h1, h2⟩ => ⟨fun p hp => h1 p (h p hp), leftF_mem h h2⟩
theorem leftF_ng {pts : List Point} : ∀ {st : List Point}, LeftF pts st → LeftF (pts.map ng) (st.map ng)
  | [], _ => trivial
  | [_], _ => trivial
  | _ :: _ :: _, ⟨h1, h2⟩ => ⟨fun p hp => by obtain ⟨q, hq, rfl⟩ := List.mem_map.1 hp; rw [cross_ng]; exact h1 q hq, leftF_ng h2⟩
theorem turnsF_ng : ∀ {st : List Point}, TurnsF st → TurnsF (st.map ng)
  | [], _ => trivial
  | [_], _ => trivial
  | [_, _], _ => trivial
  | _ :: _ :: _ :: _, ⟨h1, h2⟩ => ⟨by rw [cross_ng]; exact h1, turnsF_ng h2⟩
theorem map_ng_inj {l t : List Point} (h : l.map ng = t.map ng) : l = t := by rw [← map_ng_ng l, h, map_ng_ng]

/-- A chain as a walk from the first to the last of the points. -/
structure Walk (pts w : List Point) (m M : Point) : Prop where
  left : LeftF pts w
  turns : TurnsF w
  asc : StrictS w
  sub : ∀ p ∈ w, p ∈ pts
  first : w.head? = some m
  last : w.getLast? = some M
theorem walk_unique {pts w1 w2 : List Point} {m M : Point} (h1 : Walk pts w1 m M) (h2 : Walk pts w2 m M) : w1 = w2 := by
  cases w1 with
  | nil => have := h1.first; simp at this
  | cons c1 t1 => cases w2 with
    | nil => have := h2.first; simp at this
    | cons c2 t2 =>
      have e1 : c1 = m := by simpa using h1.first
      have e2 : c2 = m := by simpa using h2.first
      subst e1 e2
      rw [chain_unique t1 t2 _ h1.left h2.left h1.turns h2.turns h1.asc h2.asc (fun p hp => h1.sub p (List.mem_cons_of_mem _ hp)) (fun p hp => h2.sub p (List.mem_cons_of_mem _ hp)) h1.last h2.last]
theorem walk_lo {s : List Point} (hs : StrictS s) {m M : Point} (hm : m ∈ s) (hM : M ∈ s) (tm : ∀ p ∈ s, p = m ∨ pLt m p) (tM : ∀ p ∈ s, p = M ∨ pLt p M) : Walk s (chainR s).reverse m M := by
  have hi := chain_inv hs
  have hne : chainR s ≠ [] := fun e => by have := chainR_pos (List.ne_nil_of_mem hm); rw [e] at this; simp at this
  refine ⟨left_rev hi.left, turns_rev hi.turns, List.pairwise_reverse.2 hi.desc, fun p hp => hi.sub p (by simpa using hp), ?_, ?_⟩
  · obtain ⟨t, ht⟩ := some_last hne
    rw [List.head?_reverse, ht]
    have h1 := hi.bot t ht m hm
    have h2 := tm t (hi.sub t (List.mem_of_getLast? ht))
    rcases h1 with e | h1
    · rw [e]
    · rcases h2 with e | h2
      · rw [e]
      · exact absurd h2 (pLt_asymm h1)
  · rw [List.getLast?_reverse]
    cases hcr : chainR s with
    | nil => exact absurd hcr hne
    | cons t r =>
      have h1 := hi.top t r hcr M hM
      have h2 := tM t (hi.sub t (by rw [hcr]; simp))
      rcases h1 with e | h1
      · rw [e]; rfl
      · rcases h2 with e | h2
        · rw [e]; rfl
        · exact absurd h2 (pLt_asymm h1)
theorem walk_up {s : List Point} (hs : StrictS s) {m M : Point} (hm : m ∈ s) (hM : M ∈ s) (tm : ∀ p ∈ s, p = m ∨ pLt m p) (tM : ∀ p ∈ s, p = M ∨ pLt p M) : Walk (s.map ng) ((chainR s.reverse).reverse.map ng) (ng M) (ng m) := by
  have hi := up_inv hs
  have hne : chainR s.reverse ≠ [] := fun e => by have := chainR_pos (a := s.reverse) (by simpa using List.ne_nil_of_mem hm); rw [e] at this; simp at this
  refine ⟨leftF_ng (left_rev hi.left), turnsF_ng (turns_rev hi.turns), List.pairwise_map.2 (List.pairwise_reverse.2 (hi.asc.imp fun h => pLt_ng.2 h)), fun p hp => ?_, ?_, ?_⟩
  · obtain ⟨q, hq, rfl⟩ := List.mem_map.1 hp
    exact List.mem_map_of_mem (hi.sub q (by simpa using hq))
  · obtain ⟨t, ht⟩ := some_last hne
    rw [List.head?_map, List.head?_reverse, ht]
    have h1 := hi.bot t ht M hM
    have h2 := tM t (hi.sub t (List.mem_of_getLast? ht))
    rcases h1 with e | h1
    · rw [e]; rfl
    · rcases h2 with e | h2
      · rw [e]; rfl
      · exact absurd h2 (pLt_asymm h1)
  · rw [List.getLast?_map, List.getLast?_reverse]
    cases hcr : chainR s.reverse with
    | nil => exact absurd hcr hne
    | cons t r =>
      have h1 := hi.top t r hcr m hm
      have h2 := tm t (hi.sub t (by rw [hcr]; simp))
      rcases h1 with e | h1
      · rw [e]; rfl
      · rcases h2 with e | h2
        · rw [e]; rfl
        · exact absurd h2 (pLt_asymm h1)
theorem Walk.sub' {pts pts' w : List Point} {m M : Point} (h : Walk pts w m M) (hs : ∀ p ∈ pts', p ∈ pts) (hw : ∀ p ∈ w, p ∈ pts') : Walk pts' w m M := ⟨leftF_mem hs h.left, h.turns, h.asc, hw, h.first, h.last⟩

/-- The hull of some of the points, among them all corners. -/
theorem hullOf_sub {s s' : List Point} (hs : StrictS s) (hs' : StrictS s') (h5 : ¬ (chainR s).length + (chainR s.reverse).length < 5) (hsub : ∀ p ∈ s', p ∈ s) (hcor : ∀ p ∈ hullOf s, p ∈ s') : hullOf s' = hullOf s := by
  obtain ⟨m, M, lo, up, e1, e2, hm, hM, tm, tM, hlt, ⟨r1, g1⟩, ⟨r2, g2⟩, hH⟩ := hull_form hs h5
  have cm : m ∈ s' := hcor m (by rw [hH, g1]; simp)
  have cM : M ∈ s' := hcor M (by rw [hH, g2]; simp)
  have clo : ∀ p ∈ (chainR s).reverse, p ∈ s' := fun p hp => by
    rw [e1, List.reverse_cons, List.mem_append] at hp
    rcases hp with hp | hp
    · exact hcor p (by rw [hH, List.mem_append]; exact .inl hp)
    · rw [List.mem_singleton.1 hp]; exact cM
  have cup : ∀ p ∈ (chainR s.reverse).reverse, p ∈ s' := fun p hp => by
    rw [e2, List.reverse_cons, List.mem_append] at hp
    rcases hp with hp | hp
    · exact hcor p (by rw [hH, List.mem_append]; exact .inr hp)
    · rw [List.mem_singleton.1 hp]; exact cm
  have tm' : ∀ p ∈ s', p = m ∨ pLt m p := fun p hp => tm p (hsub p hp)
  have tM' : ∀ p ∈ s', p = M ∨ pLt p M := fun p hp => tM p (hsub p hp)
  have w1 := (walk_lo hs hm hM tm tM).sub' hsub clo
  have w2 := walk_lo hs' cm cM tm' tM'
  have w3 := (walk_up hs hm hM tm tM).sub' (pts' := s'.map ng) (fun p hp => by obtain ⟨q, hq, rfl⟩ := List.mem_map.1 hp; exact List.mem_map_of_mem (hsub q hq)) (fun p hp => by obtain ⟨q, hq, rfl⟩ := List.mem_map.1 hp; exact List.mem_map_of_mem (cup q hq))
  have w4 := walk_up hs' cm cM tm' tM'
  have c1 : chainR s' = chainR s := List.reverse_inj.1 (walk_unique w2 w1)
  have c2 : chainR s'.reverse = chainR s.reverse := List.reverse_inj.1 (map_ng_inj (walk_unique w4 w3))
  unfold hullOf
  rw [c1, c2]

/-- No corner occurs twice. -/
theorem hullOf_nodup {s : List Point} (hs : StrictS s) : (hullOf s).Nodup := by
  by_cases h5 : (chainR s).length + (chainR s.reverse).length < 5
  · unfold hullOf; rw [if_pos h5]; exact List.nodup_nil
  obtain ⟨m, M, lo, up, e1, e2, hm, hM, tm, tM, hlt, ⟨r1, g1⟩, ⟨r2, g2⟩, hH⟩ := hull_form hs h5
  have hi := chain_inv hs
  have hu := up_inv hs
  have d1 := hi.desc
  have d2 := hu.asc
  rw [e1, Desc, List.pairwise_cons] at d1
  rw [e2, StrictS, List.pairwise_cons] at d2
  rw [hH, List.nodup_append]
  refine ⟨?_, ?_, ?_⟩
  · rw [List.Nodup, List.pairwise_reverse]
    exact d1.2.imp (fun h e => by rw [e] at h; exact pLt_irrefl _ h)
  · rw [List.Nodup, List.pairwise_reverse]
    exact d2.2.imp (fun h e => by rw [e] at h; exact pLt_irrefl _ h)
  · intro p hp q hq e
    subst e
    have pM : pLt p M := d1.1 p (by simpa using hp)
    have mp : pLt m p := d2.1 p (by simpa using hq)
    have L1 := left_rev hi.left
    have T1 := turns_rev hi.turns
    have L2 := left_rev hu.left
    rw [e1, List.reverse_cons] at L1 T1
    rw [e2, List.reverse_cons] at L2
    have before : ∀ {x : Point} {l r : List Point}, l = x :: r → p ∈ l → p ≠ x → ∃ k1 u k2, l = k1 ++ u :: p :: k2 := by
      intro x l r hl hpl hne
      obtain ⟨k1, k2, e⟩ := List.append_of_mem hpl
      rcases List.eq_nil_or_concat k1 with rfl | ⟨k, u, rfl⟩
      · rw [hl] at e; injection e with e _; exact absurd e.symm hne
      · exact ⟨k, u, k2, by rw [e]; simp⟩
    obtain ⟨k1, u, k2, f1⟩ := before g1 hp (fun e => by rw [e] at mp; exact pLt_irrefl _ mp)
    obtain ⟨k3, z, k4, f2⟩ := before g2 hq (fun e => by rw [e] at pM; exact pLt_irrefl _ pM)
    have hup : pLt u p := by
      have : (lo.reverse).Pairwise pLt := List.pairwise_reverse.2 d1.2
      rw [f1, List.pairwise_append] at this
      exact (List.pairwise_cons.1 this.2.1).1 p (by simp)
    have hpz : pLt p z := by
      have : (up.reverse).Pairwise (fun a b => pLt b a) := List.pairwise_reverse.2 d2.2
      rw [f2, List.pairwise_append] at this
      exact (List.pairwise_cons.1 this.2.1).1 p (by simp)
    have us : u ∈ s := hi.sub u (by rw [e1]; exact List.mem_cons_of_mem _ (by rw [← List.mem_reverse, f1]; simp))
    have zs : z ∈ s := hu.sub z (by rw [e2]; exact List.mem_cons_of_mem _ (by rw [← List.mem_reverse, f2]; simp))
    obtain ⟨v, k5, f3⟩ : ∃ v k5, k2 ++ [M] = v :: k5 := by cases k2 with | nil => exact ⟨M, [], rfl⟩ | cons v k => exact ⟨v, k ++ [M], rfl⟩
    have f4 : lo.reverse ++ [M] = k1 ++ u :: p :: v :: k5 := by rw [f1, List.append_assoc, List.cons_append, List.cons_append, f3]
    rw [f4] at L1 T1
    rw [f2, List.append_assoc] at L2
    have a1 := leftF_at L1 z zs
    have a2 : 0 ≤ cross p v z := leftF_at (l := k1 ++ [u]) (by rw [List.append_assoc]; exact L1) z zs
    have a3 := turnsF_at T1
    have a4 := leftF_at (l := k3) L2 u us
    have e0 : cross u p z = 0 := by
      have : cross z p u = -cross u p z := by unfold cross; grind
      omega
    exact uniq_step hup hpz e0 a3 a2

/-! ### Where there is no hull -/
theorem ends {s : List Point} (hs : StrictS s) (hne : s ≠ []) : ∃ m M, m ∈ s ∧ M ∈ s ∧ (∀ p ∈ s, p = m ∨ pLt m p) ∧ (∀ p ∈ s, p = M ∨ pLt p M) := by
  induction s with
  | nil => exact absurd rfl hne
  | cons a s ih =>
    obtain ⟨h1, h2⟩ := List.pairwise_cons.1 hs
    by_cases h : s = []
    · subst h; exact ⟨a, a, by simp, by simp, by simp, by simp⟩
    · obtain ⟨m, M, hm, hM, t1, t2⟩ := ih h2 h
      refine ⟨a, M, by simp, List.mem_cons_of_mem _ hM, fun p hp => ?_, fun p hp => ?_⟩
      · rcases List.mem_cons.1 hp with rfl | hp
        · exact .inl rfl
        · exact .inr (h1 p hp)
      · rcases List.mem_cons.1 hp with rfl | hp
        · exact .inr (h1 M hM)
        · exact t2 p hp
theorem collinear3 {m M p q r : Point} (hne : m ≠ M) (h1 : cross m M p = 0) (h2 : cross m M q = 0) (h3 : cross m M r = 0) : cross p q r = 0 := by
  have ex : (M.X - m.X) * cross p q r = 0 := by
    have : (M.X - m.X) * cross p q r = (q.X - p.X) * (cross m M r - cross m M p) - (r.X - p.X) * (cross m M q - cross m M p) := by unfold cross; grind
    rw [this, h1, h2, h3]; simp
  have ey : (M.Y - m.Y) * cross p q r = 0 := by
    have : (M.Y - m.Y) * cross p q r = (q.Y - p.Y) * (cross m M r - cross m M p) - (r.Y - p.Y) * (cross m M q - cross m M p) := by unfold cross; grind
    rw [this, h1, h2, h3]; simp
  rcases Int.mul_eq_zero.1 ex with h | h
  · rcases Int.mul_eq_zero.1 ey with h' | h'
    · refine absurd ?_ hne
      cases m; cases M
      simp only [Point.mk.injEq]
      simp only at h h'
      omega
    · exact h'
  · exact h
theorem hullOf_nil {s : List Point} (hs : StrictS s) (h : hullOf s = []) {p q r : Point} (hp : p ∈ s) (hq : q ∈ s) (hr : r ∈ s) : cross p q r = 0 := by
  have h5 : (chainR s).length + (chainR s.reverse).length < 5 := by
    refine Classical.byContradiction fun h5 => ?_
    have := (hull_left hs h5).1
    rw [h] at this; simp at this
  obtain ⟨m, M, hm, hM, t1, t2⟩ := ends hs (List.ne_nil_of_mem hp)
  by_cases e : m = M
  · subst e
    have one : ∀ x ∈ s, x = m := fun x hx => by
      rcases t1 x hx with e | e
      · exact e
      · rcases t2 x hx with e' | e'
        · exact e'
        · exact absurd e (pLt_asymm e')
    rw [one p hp, one q hq, one r hr]
    unfold cross; simp
  · have w1 := walk_lo hs hm hM t1 t2
    have w2 := walk_up hs hm hM t1 t2
    have two : ∀ {w : List Point} {a b : Point}, w.head? = some a → w.getLast? = some b → a ≠ b → 2 ≤ w.length ∧ (w.length = 2 → w = [a, b]) := by
      intro w a b x1 x2 hne
      match w with
      | [] => simp at x1
      | [c] =>
        simp only [List.head?_cons, Option.some.injEq] at x1
        simp only [List.getLast?_singleton, Option.some.injEq] at x2
        exact absurd (x1.symm.trans x2) hne
      | [c, d] =>
        simp only [List.head?_cons, Option.some.injEq] at x1
        simp only [List.getLast?_cons_cons, List.getLast?_singleton, Option.some.injEq] at x2
        exact ⟨by simp, fun _ => by rw [x1, x2]⟩
      | c :: d :: f :: w => exact ⟨by simp, fun h => by simp at h⟩
    have k1 := two w1.first w1.last e
    have k2 := two w2.first w2.last (fun h => e (by rw [← ng_ng m, ← h, ng_ng]))
    rw [List.length_reverse] at k1
    rw [List.length_map, List.length_reverse] at k2
    have f1 := k1.2 (by omega)
    have f2 := k2.2 (by omega)
    have L1 := w1.left
    have L2 := w2.left
    rw [f1] at L1
    rw [f2] at L2
    have z : ∀ x ∈ s, cross m M x = 0 := fun x hx => by
      have a1 := L1.1 x hx
      have a2 := L2.1 (ng x) (List.mem_map_of_mem hx)
      rw [cross_ng] at a2
      have : cross M m x = -cross m M x := by unfold cross; grind
      omega
    exact collinear3 e (z p hp) (z q hq) (z r hr)
theorem hull_nil {a : List Point} (hl : a.length ≤ 32) (hr : a.all inRange = true) (h : hull a = []) {p q r : Point} (hp : p ∈ a) (hq : q ∈ a) (hr' : r ∈ a) : cross p q r = 0 := by
  unfold hull at h
  rw [decide_eq_false (by omega), hr] at h
  exact hullOf_nil (srt_strict a) h ((srt_mem a p).2 hp) ((srt_mem a q).2 hq) ((srt_mem a r).2 hr')
theorem nodup_len {l s : List Point} (hn : l.Nodup) (hs : ∀ p ∈ l, p ∈ s) : l.length ≤ s.length := by
  induction l generalizing s with
  | nil => simp
  | cons a l ih =>
    obtain ⟨h1, h2⟩ := List.nodup_cons.1 hn
    obtain ⟨k1, k2, e⟩ := List.append_of_mem (hs a (by simp))
    have := ih h2 (s := k1 ++ k2) (fun p hp => by
      have := hs p (List.mem_cons_of_mem _ hp)
      rw [e, List.mem_append, List.mem_cons] at this
      rcases this with h | h | h
      · simp [h]
      · rw [h] at hp; exact absurd hp h1
      · simp [h])
    rw [e]
    simp only [List.length_append, List.length_cons] at this ⊢
    omega
theorem hull_nodup (a : List Point) : (hull a).Nodup := by
  by_cases h : hull a = []
  · rw [h]; exact List.nodup_nil
  · rw [(hull_of h).2.2.1]; exact hullOf_nodup (srt_strict a)
theorem hull_le (a : List Point) : (hull a).length ≤ a.length := nodup_len (hull_nodup a) (fun p hp => hull_mem hp)
/-- The hull of some of the points, among them all corners. -/
theorem hull_sub {a b : List Point} (ha : hull a ≠ []) (hb : b.length ≤ 32) (hsub : ∀ p ∈ b, p ∈ a) (hcor : ∀ p ∈ hull a, p ∈ b) : hull b = hull a := by
  obtain ⟨h1, h2, h3, h5⟩ := hull_of ha
  have hr : b.all inRange = true := List.all_eq_true.2 fun p hp => List.all_eq_true.1 h2 p (hsub p hp)
  have e : hull b = hullOf (srt b) := by unfold hull; rw [decide_eq_false (by omega), hr]; rfl
  rw [e, h3]
  refine hullOf_sub (srt_strict a) (srt_strict b) h5 (fun p hp => (srt_mem a p).2 (hsub p ((srt_mem b p).1 hp))) (fun p hp => (srt_mem b p).2 (hcor p (by rw [h3]; exact hp)))
end Saw
end Go.SL

namespace Go.SL
namespace Saw

theorem inH_rng {H : List Point} (hc : Cvx H) {X y : Int} (h : inH H X y) : -600 ≤ X ∧ X ≤ 600 := by
  have a := lin_nonneg hc h (al := 1) (be := 0) (c := 600) (fun p hp => by have := hc.rg p hp; unfold lin; omega)
  have b := lin_nonneg hc h (al := -1) (be := 0) (c := 600) (fun p hp => by have := hc.rg p hp; unfold lin; omega)
  unfold lin at a b
  simp only at a b
  omega
theorem chord_rng (p : List Point) (lo hi : Int) : rngS (chord p lo hi) = true ∧ nrm (chord p lo hi) = chord p lo hi := by
  rcases chord_spec p lo hi with ⟨e, _⟩ | ⟨h0, h1, h2, h3⟩
  · rw [e]; exact ⟨rfl, rfl⟩
  · have k1 := (h3 _).1 ⟨Int.le_refl _, Int.le_of_lt h2⟩
    have k2 := (h3 _).1 ⟨Int.le_of_lt h2, Int.le_refl _⟩
    have r1 := inH_rng (hull_cvx h0) k1.1
    have r2 := inH_rng (hull_cvx h0) k2.1
    refine ⟨rngS_iff.2 (by omega), nrm_ne ?_⟩
    unfold empS
    exact decide_eq_false (by omega)
noncomputable def ofS (p : List Point) : Section := secOf (fun j => chord p (10 * ((j : Int) - 60)) (10 * ((j : Int) - 60 + 1)))
theorem VS_of' (p : List Point) : VS (ofS p) := secOf_VS (fun j _ => by rw [(chord_rng _ _ _).2]; exact (chord_rng _ _ _).1)
theorem row_of (p : List Point) (r : Int) : row (ofS p) r = if -60 ≤ r ∧ r < 60 then chord p (10 * r) (10 * (r + 1)) else ⟨0, 0⟩ := by
  unfold ofS
  rw [secOf_row (fun r => chord p (10 * r) (10 * (r + 1))), (chord_rng _ _ _).2]
theorem build_of (p : List Point) : section_build p = some (ofS p) := by
  have m1 : ∀ r : Int, -60 ≤ r → r < 60 → section_Of_1 r p = some (chord p (10 * r) (10 * (r + 1))) := fun r h1 h2 => by
    unfold section_Of_1 section_heights
    rw [w64_id (n := r + 1) (by omega) (by omega), w64_id (by omega) (by omega), w64_id (by omega) (by omega)]
    simp only [Option.bind_some, polyChord_eq]
  unfold section_build
  refine build_gen (fun j => chord p (10 * ((j : Int) - 60)) (10 * ((j : Int) - 60 + 1))) (section_build_L1 p) (fun n x u w l hx => ?_) (fun n u w l => ?_)
  · rw [section_build_L1, decide_eq_true (show (x : Int) - 60 < 60 by omega), m1 _ (by omega) (by omega)]
    simp only [cond_true, Option.bind_some, section_isEmpty_eq, section_build_k2, section_build_k3]
  · rw [section_build_L1]; rfl
theorem chord_out {p : List Point} {lo hi : Int} (h : (∀ q ∈ p, lo < q.Y) ∨ (∀ q ∈ p, q.Y < hi)) : chord p lo hi = ⟨0, 0⟩ := by
  rcases chord_spec p lo hi with ⟨e, _⟩ | ⟨h0, h1, h2, h3⟩
  · exact e
  · have k1 := (h3 _).1 ⟨Int.le_refl _, Int.le_of_lt h2⟩
    have hb := bounds_YB h0
    have y1 := in_YB (hull_cvx h0) hb k1.1
    have y2 := in_YB (hull_cvx h0) hb k1.2
    obtain ⟨u, hu, eu⟩ := hb.lo
    obtain ⟨v, hv, ev⟩ := hb.hi
    rcases h with h | h
    · have := h u (hull_mem hu); omega
    · have := h v (hull_mem hv); omega
theorem of_L1 (p : List Point) (hl : p.length ≤ 1000) (y : Int) : ∃ lo hi, ref10_Of_L1 p FUEL y y 0 = some (lo, hi) ∧ ∀ q ∈ p, lo ≤ q.Y ∧ q.Y ≤ hi := by
  have k := loop_fold p (fun n (s : Int × Int) x => ref10_Of_L1 p n s.1 s.2 x) (fun x => (x : Int)) (fun _ a s => (imin s.1 a.Y, imax s.2 a.Y)) (fun s => s) (fun x s => ∀ j, j < x → s.1 ≤ (p.getD j default).Y ∧ (p.getD j default).Y ≤ s.2) (by omega)
    (fun n x s hx hi => by
      refine ⟨?_, fun j hj => ?_⟩
      · rw [ref10_Of_L1, decide_eq_true (show (x : Int) < _ by omega), inb_t (by omega) (by omega), inc_eq (by omega)]; rfl
      · have a1 := imin_or s.1 (p.getD x default).Y
        have a2 := imax_or s.2 (p.getD x default).Y
        simp only
        by_cases hjx : j = x
        · subst hjx; omega
        · have := hi j (by omega); omega)
    (fun n s _ => by rw [ref10_Of_L1]; simp) (i := 0) rfl (y, y) (fun j hj => by omega)
  refine ⟨_, _, k.1, fun q hq => ?_⟩
  obtain ⟨i, hi, e⟩ := List.mem_iff_getElem.1 hq
  have := k.2 i hi
  rw [List.getD_eq_getElem?_getD, List.getElem?_eq_getElem hi, Option.getD_some, e] at this
  exact this
theorem of_L2 (p : List Point) (o : Int × Int) (ho : ∀ q ∈ p, o.1 ≤ q.Y ∧ q.Y ≤ o.2) : (ref10_Of_L2 p o FUEL [] (-60)).bind (fun l => ref10_Dropped (-60) l) = some (ofS p) := by
  have k := loop_fold (List.range 120) (fun n (l : List Span) x => ref10_Of_L2 p o n l x) (fun x => (x : Int) - 60) (fun x (_ : Nat) l => l ++ [chord p (10 * ((x : Int) - 60)) (10 * ((x : Int) - 60 + 1))]) (fun l => l) (fun x l => l.length = x) (by simp)
    (fun n x l hx hi => by
      have hx' : x < 120 := by simpa using hx
      refine ⟨?_, by simp [hi]⟩
      have e3 : w64 ((x : Int) - 60 + 1) = ((x + 1 : Nat) : Int) - 60 := by rw [w64_id (by omega) (by omega)]; omega
      have k4 : ∀ z, ref10_Of_k4 l ((x : Int) - 60) (ref10_Of_L2 p o n) z = ref10_Of_L2 p o n (l ++ [z]) (((x + 1 : Nat) : Int) - 60) := fun z => by
        unfold ref10_Of_k4
        rw [room_t (by omega), e3]; rfl
      rw [ref10_Of_L2, decide_eq_true (show (x : Int) - 60 < 60 by omega), w64_id (n := (x : Int) - 60 + 1) (by omega) (by omega), w64_id (n := 10 * ((x : Int) - 60)) (by omega) (by omega), w64_id (n := 10 * ((x : Int) - 60 + 1)) (by omega) (by omega)]
      simp only [cond_true, ref10_Of_k3, k4]
      rw [w64_id (n := (x : Int) - 60 + 1) (by omega) (by omega), w64_id (n := 10 * ((x : Int) - 60)) (by omega) (by omega), w64_id (n := 10 * ((x : Int) - 60 + 1)) (by omega) (by omega), refChord_eq]
      simp only [Option.bind_some]
      by_cases c1 : 10 * ((x : Int) - 60) ≥ o.1
      · rw [decide_eq_true c1]
        by_cases c2 : 10 * ((x : Int) - 60 + 1) ≤ o.2
        · rw [decide_eq_true c2]; rfl
        · rw [decide_eq_false c2, chord_out (.inr fun q hq => by have := (ho q hq).2; omega)]; rfl
      · rw [decide_eq_false c1, chord_out (.inl fun q hq => by have := (ho q hq).1; omega)]; rfl)
    (fun n l _ => by
      have e : (((List.range 120).length : Nat) : Int) - 60 = 60 := by rw [List.length_range]; rfl
      simp only [e]
      rw [ref10_Of_L2]; rfl) (i := -60) rfl [] rfl
  rw [foldi_map (fun x (_ : Nat) => chord p (10 * ((x : Int) - 60)) (10 * ((x : Int) - 60 + 1))), List.nil_append] at k
  rw [k.1]
  simp only [Option.bind_some]
  rw [dropped_eq _ (by rw [mapi_len]; simp)]
  have e : secOf (fun j => (mapi (fun x (_ : Nat) => chord p (10 * ((x : Int) - 60)) (10 * ((x : Int) - 60 + 1))) 0 (List.range 120)).getD j default) = ofS p := by
    unfold ofS
    refine secOf_congr (fun j hj => ?_)
    rw [mapi_get _ _ _ _ (by rw [List.length_range]; exact hj), Nat.zero_add]
  rw [e]
noncomputable def ofR (p : List Point) : Section × Int := if chk p = 0 then (if (ofS p).Rows = [] then (nilS, 18) else (ofS p, 0)) else (nilS, chk p)
theorem Of_eq (p : List Point) (hl : p.length ≤ 40) : section_Of p = some (ofR p) ∧ ref10_Of p = some (ofR p) := by
  unfold section_Of ref10_Of ofR
  rw [(chk_eq p).1, (chk_eq p).2, build_of]
  simp only [Option.bind_some]
  by_cases hc : chk p = 0
  · rw [show (chk p != 0) = false by simpa using hc, if_pos hc]
    have h3 : 3 ≤ p.length := by
      refine Classical.byContradiction fun hn => ?_
      unfold chk at hc
      rw [decide_eq_true (show ((p.length : Nat) : Int) < 3 by omega)] at hc
      exact absurd hc (by intro h; simp at h)
    obtain ⟨lo, hi, k1, k2⟩ := of_L1 p (by omega) (p.getD 0 default).Y
    have k3 := of_L2 p (lo, hi) k2
    rw [inb_t (by omega) (by omega)]
    simp only [cond_false, cond_true, Int.toNat_zero, k1, Option.bind_some]
    cases hL : ref10_Of_L2 p (lo, hi) FUEL [] (-60) with
    | none => rw [hL] at k3; cases k3
    | some l =>
      rw [hL] at k3
      simp only [Option.bind_some] at k3 ⊢
      rw [k3]
      simp only [Option.bind_some]
      by_cases he : (ofS p).Rows = []
      · rw [if_pos he, he]; exact ⟨rfl, rfl⟩
      · have e0 : ((((ofS p).Rows.length : Nat) : Int) == 0) = false := by
          have : 0 < (ofS p).Rows.length := List.length_pos_iff.2 he
          rw [beq_eq_false_iff_ne]; omega
        rw [if_neg he, e0]; exact ⟨rfl, rfl⟩
  · rw [show (chk p != 0) = true by simpa using hc, if_neg hc]; exact ⟨rfl, rfl⟩
theorem ofR_VS (p : List Point) : VS (ofR p).1 := by
  unfold ofR
  split
  · split
    · exact VS_nil
    · exact VS_of' p
  · exact VS_nil
theorem SectionOfs_true (p : List Point) {w : Prop} (_ : w) : law10_SectionOfs p = some true := by
  unfold law10_SectionOfs
  by_cases h : ((p.length : Nat) : Int) > 40
  · rw [decide_eq_true h]; simp [awake_true]
  · rw [decide_eq_false h]
    have l1 := (ofR_VS p).len
    simp only [cond_false, (Of_eq p (by omega)).1, (Of_eq p (by omega)).2, Option.bind_some, Section.eta, same_self _ (Nat.le_trans l1 (by decide)), cond_true, beq_self_eq_true, awake_true, law10_SectionOfs_k1]
end Saw
end Go.SL
