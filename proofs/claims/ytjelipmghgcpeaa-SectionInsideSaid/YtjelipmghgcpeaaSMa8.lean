/- Poly's plain mathematics, part 35: PolyChord, PolyWithin. -/
import Derived.Test.YtjelipmghgcpeaaSMa7
set_option linter.unusedVariables false
set_option linter.unusedSimpArgs false
namespace Go.SL
namespace Saw

theorem hull_has {a : List Point} (h : hull a ≠ []) {X y : Int} (hr : inRange ⟨X, y⟩ = true) : has (hull a) ⟨X, y⟩ = true ↔ inH (hull a) X y :=
  has_cvx (hull_cvx h) (hull_nodup a) (by have := hull_le a; have := (hull_of h).1; omega) hr
theorem hull_has' {a : List Point} (h : hull a ≠ []) (X y : Int) : has (hull a) ⟨X, y⟩ = true ↔ inH (hull a) X y := by
  cases hr : inRange ⟨X, y⟩ with
  | true => exact hull_has h hr
  | false =>
    have e : has (hull a) ⟨X, y⟩ = false := by unfold has; rw [hr]; simp
    rw [e]
    refine ⟨fun h => absurd h (by decide), fun hin => ?_⟩
    have hc := hull_cvx h
    have a1 := lin_nonneg hc hin (al := 1) (be := 0) (c := 600) (fun p hp => by have := hc.rg p hp; unfold lin; omega)
    have a2 := lin_nonneg hc hin (al := -1) (be := 0) (c := 600) (fun p hp => by have := hc.rg p hp; unfold lin; omega)
    have a3 := lin_nonneg hc hin (al := 0) (be := 1) (c := 600) (fun p hp => by have := hc.rg p hp; unfold lin; omega)
    have a4 := lin_nonneg hc hin (al := 0) (be := -1) (c := 600) (fun p hp => by have := hc.rg p hp; unfold lin; omega)
    unfold lin at a1 a2 a3 a4
    simp only at a1 a2 a3 a4
    have : inRange ⟨X, y⟩ = true := inRange_iff.2 (by simp only; omega)
    rw [this] at hr; cases hr
theorem inside_eq (H : List Point) (a b lo hi : Int) : law09_inside H a b lo hi = some (has H ⟨a, lo⟩ && (has H ⟨a, hi⟩ && (has H ⟨b, lo⟩ && has H ⟨b, hi⟩))) := by
  unfold law09_inside law09_pt law09_inside_k1
  simp only [Option.bind_some, (has_eq _ _).1]
  cases has H ⟨a, lo⟩ <;> cases has H ⟨a, hi⟩ <;> cases has H ⟨b, lo⟩ <;> rfl
theorem inside_in {p : List Point} (h : hull p ≠ []) (a b lo hi : Int) : (has (hull p) ⟨a, lo⟩ && (has (hull p) ⟨a, hi⟩ && (has (hull p) ⟨b, lo⟩ && has (hull p) ⟨b, hi⟩))) = true ↔ (inH (hull p) a lo ∧ inH (hull p) a hi ∧ inH (hull p) b lo ∧ inH (hull p) b hi) := by
  rw [Bool.and_eq_true, Bool.and_eq_true, Bool.and_eq_true, hull_has' h, hull_has' h, hull_has' h, hull_has' h]
theorem span_zero (s : Span) : ((s.A == 0) && ((s.B == 0) && true)) = true ↔ s = ⟨0, 0⟩ := by cases s; simp
theorem PolyChord_true (p : List Point) (y : List Int) (x : Int) {w w' : Prop} (_ : w) (_ : w') (hx : i64ok x) : law09_PolyChord p y x = some true := by
  have k1t : law09_PolyChord_k1 p y x true = some true := by unfold law09_PolyChord_k1; simp [awake_true09]
  have main : law09_PolyChord_k1 p y x false = some true ∨ ¬ (-1000 ≤ x ∧ x ≤ 1000) := by
    by_cases hxr : -1000 ≤ x ∧ x ≤ 1000
    · refine .inl ?_
      unfold law09_PolyChord_k1
      simp only [cond_false, polyHull_eq, polyChord_eq, Option.bind_some, inside_eq]
      generalize y.getD 0 default = lo
      generalize y.getD 1 default = hi
      rcases chord_spec p lo hi with ⟨e, hno⟩ | ⟨h0, h1, h2, h3⟩
      · rw [(span_zero _).2 e]
        simp only [cond_true]
        by_cases h0 : hull p = []
        · rw [h0]; simp [awake_true09, law09_PolyChord_k2]
        · have e0 : ((((hull p).length : Nat) : Int) == 0) = false := by
            have : 0 < (hull p).length := List.length_pos_iff.2 h0
            rw [beq_eq_false_iff_ne]; omega
          rw [e0]
          simp only [cond_false]
          by_cases h1 : lo ≥ hi
          · rw [decide_eq_true h1]; simp [awake_true09, law09_PolyChord_k2]
          · rw [decide_eq_false h1, w64_id (by omega) (by omega)]
            have hn := hno x h0 (by omega)
            have : (has (hull p) ⟨x, lo⟩ && (has (hull p) ⟨x, hi⟩ && (has (hull p) ⟨x + 1, lo⟩ && has (hull p) ⟨x + 1, hi⟩))) = false := by
              cases hb : (has (hull p) ⟨x, lo⟩ && (has (hull p) ⟨x, hi⟩ && (has (hull p) ⟨x + 1, lo⟩ && has (hull p) ⟨x + 1, hi⟩))) with
              | false => rfl
              | true => exact absurd ((inside_in h0 _ _ _ _).1 hb) hn
            rw [this]
            simp [awake_true09, law09_PolyChord_k2]
      · have hz : (((chord p lo hi).A == 0) && (((chord p lo hi).B == 0) && true)) = false := by
          cases hb : (((chord p lo hi).A == 0) && (((chord p lo hi).B == 0) && true)) with
          | false => rfl
          | true => rw [(span_zero _).1 hb] at h2; exact absurd h2 (by decide)
        rw [hz, decide_eq_true h2, decide_eq_true h1]
        have kA := (h3 _).1 ⟨Int.le_refl _, Int.le_of_lt h2⟩
        have kB := (h3 _).1 ⟨Int.le_of_lt h2, Int.le_refl _⟩
        have hc := hull_cvx h0
        have rA : -600 ≤ (chord p lo hi).A ∧ (chord p lo hi).A ≤ 600 := by
          have a1 := lin_nonneg hc kA.1 (al := 1) (be := 0) (c := 600) (fun p hp => by have := hc.rg p hp; unfold lin; omega)
          have a2 := lin_nonneg hc kA.1 (al := -1) (be := 0) (c := 600) (fun p hp => by have := hc.rg p hp; unfold lin; omega)
          unfold lin at a1 a2; simp only at a1 a2; omega
        have rB : -600 ≤ (chord p lo hi).B ∧ (chord p lo hi).B ≤ 600 := by
          have a1 := lin_nonneg hc kB.1 (al := 1) (be := 0) (c := 600) (fun p hp => by have := hc.rg p hp; unfold lin; omega)
          have a2 := lin_nonneg hc kB.1 (al := -1) (be := 0) (c := 600) (fun p hp => by have := hc.rg p hp; unfold lin; omega)
          unfold lin at a1 a2; simp only at a1 a2; omega
        rw [w64_id (n := (chord p lo hi).A - 1) (by omega) (by omega), w64_id (n := (chord p lo hi).B + 1) (by omega) (by omega), (inside_in h0 _ _ _ _).2 ⟨kA.1, kA.2, kB.1, kB.2⟩]
        have n1 : (has (hull p) ⟨(chord p lo hi).A - 1, lo⟩ && (has (hull p) ⟨(chord p lo hi).A - 1, hi⟩ && (has (hull p) ⟨(chord p lo hi).B, lo⟩ && has (hull p) ⟨(chord p lo hi).B, hi⟩))) = false := by
          cases hb : (has (hull p) ⟨(chord p lo hi).A - 1, lo⟩ && (has (hull p) ⟨(chord p lo hi).A - 1, hi⟩ && (has (hull p) ⟨(chord p lo hi).B, lo⟩ && has (hull p) ⟨(chord p lo hi).B, hi⟩))) with
          | false => rfl
          | true =>
            have q := (inside_in h0 _ _ _ _).1 hb
            have := (h3 _).2 ⟨q.1, q.2.1⟩
            omega
        have n2 : (has (hull p) ⟨(chord p lo hi).A, lo⟩ && (has (hull p) ⟨(chord p lo hi).A, hi⟩ && (has (hull p) ⟨(chord p lo hi).B + 1, lo⟩ && has (hull p) ⟨(chord p lo hi).B + 1, hi⟩))) = false := by
          cases hb : (has (hull p) ⟨(chord p lo hi).A, lo⟩ && (has (hull p) ⟨(chord p lo hi).A, hi⟩ && (has (hull p) ⟨(chord p lo hi).B + 1, lo⟩ && has (hull p) ⟨(chord p lo hi).B + 1, hi⟩))) with
          | false => rfl
          | true =>
            have q := (inside_in h0 _ _ _ _).1 hb
            have := (h3 _).2 ⟨q.2.2.1, q.2.2.2⟩
            omega
        rw [n1, n2]
        simp [awake_true09, law09_PolyChord_k3]
    · exact .inr hxr
  unfold law09_PolyChord
  by_cases hl : ((p.length : Nat) : Int) > 32
  · rw [decide_eq_true hl]; exact k1t
  rw [decide_eq_false hl, ref_range p (by omega)]
  simp only [cond_false, Option.bind_some]
  cases p.all inRange with
  | false => exact k1t
  | true =>
    simp only [Bool.not_true, cond_false]
    by_cases c1 : x < -1000
    · rw [decide_eq_true c1]; exact k1t
    rw [decide_eq_false c1]
    by_cases c2 : x > 1000
    · rw [decide_eq_true c2]; exact k1t
    rw [decide_eq_false c2]
    rcases main with h | h
    · exact h
    · omega
/-- With further points the hull does not vanish. -/
theorem hull_more {a b : List Point} (ha : hull a ≠ []) (hs : ∀ p ∈ a, p ∈ b) (hl : b.length ≤ 32) (hr : b.all inRange = true) : hull b ≠ [] := by
  intro e
  have hc := hull_cvx ha
  have hn := hc.n3
  have t := hc.tn 0 (by omega)
  have m : ∀ p ∈ hull a, p ∈ b := fun p hp => hs p (hull_mem hp)
  rw [hull_nil hl hr e (m _ (getD_mem' (by omega))) (m _ (getD_mem' (Nat.mod_lt _ (by omega)))) (m _ (getD_mem' (Nat.mod_lt _ (by omega))))] at t
  omega
theorem chord_sub {a b : List Point} {lo hi lo' hi' : Int} (hs : (chord a lo hi).A < (chord a lo hi).B) (hl : lo' < hi') (h : ∀ X, inH (hull a) X lo → inH (hull a) X hi → inH (hull b) X lo' ∧ inH (hull b) X hi') (hb : hull a ≠ [] → hull b ≠ []) : (chord b lo' hi').A ≤ (chord a lo hi).A ∧ (chord a lo hi).B ≤ (chord b lo' hi').B := by
  rcases chord_spec a lo hi with ⟨e, _⟩ | ⟨h0, _, h2, h3⟩
  · rw [e] at hs; exact absurd hs (by decide)
  have kA := (h3 _).1 ⟨Int.le_refl _, Int.le_of_lt h2⟩
  have kA1 := (h3 ((chord a lo hi).A + 1)).1 ⟨by omega, by omega⟩
  have kB := (h3 _).1 ⟨Int.le_of_lt h2, Int.le_refl _⟩
  have gA := h _ kA.1 kA.2
  have gA1 := h _ kA1.1 kA1.2
  have gB := h _ kB.1 kB.2
  rcases chord_spec b lo' hi' with ⟨_, hno⟩ | ⟨_, _, _, k3⟩
  · exact absurd ⟨gA.1, gA.2, gA1.1, gA1.2⟩ (hno _ (hb h0) hl)
  · exact ⟨((k3 _).2 gA).1, ((k3 _).2 gB).2⟩
theorem PolyWithin_true' (p q : List Point) (y : List Int) (h1 : p.length ≤ 2097152) (h2 : q.length ≤ 2097152) : law09_PolyWithin p q y = some true := by
  have k1t : law09_PolyWithin_k1 p q y true = some true := by unfold law09_PolyWithin_k1; simp [awake_true09]
  unfold law09_PolyWithin
  rw [room_t (by omega), room_t (by omega)]
  simp only [cond_true, List.nil_append, Nat.zero_add]
  by_cases hl : (((p.length + q.length : Nat) : Int)) > 32
  · rw [decide_eq_true hl]; exact k1t
  rw [decide_eq_false hl, ref_range (p ++ q) (by simp; omega)]
  simp only [cond_false, Option.bind_some]
  cases hr : (p ++ q).all inRange with
  | false => exact k1t
  | true =>
    simp only [Bool.not_true, cond_false]
    by_cases c1 : y.getD 0 default > y.getD 1 default
    · rw [decide_eq_true c1]; exact k1t
    rw [decide_eq_false c1]
    by_cases c2 : y.getD 1 default ≥ y.getD 2 default
    · rw [decide_eq_true c2]; exact k1t
    rw [decide_eq_false c2]
    by_cases c3 : y.getD 2 default > y.getD 3 default
    · rw [decide_eq_true c3]; exact k1t
    rw [decide_eq_false c3]
    unfold law09_PolyWithin_k1
    simp only [cond_false, polyChord_eq, Option.bind_some, List.nil_append]
    generalize y.getD 0 default = y0 at *
    generalize y.getD 1 default = y1 at *
    generalize y.getD 2 default = y2 at *
    generalize y.getD 3 default = y3 at *
    by_cases hs : (chord p y0 y3).A ≥ (chord p y0 y3).B
    · rw [decide_eq_true hs]
      have e : chord p y0 y3 = ⟨0, 0⟩ := by
        rcases chord_spec p y0 y3 with ⟨e, _⟩ | ⟨_, _, h2, _⟩
        · exact e
        · omega
      rw [e]
      simp [awake_true09, law09_PolyWithin_k2]
    · rw [decide_eq_false hs]
      have s1 := chord_sub (a := p) (b := p) (lo := y0) (hi := y3) (lo' := y1) (hi' := y2) (by omega) (by omega) (fun X g1 g2 => ⟨in_between g1 g2 (by omega) (by omega), in_between g1 g2 (by omega) (by omega)⟩) (fun h => h)
      have s2 := chord_sub (a := p) (b := p ++ q) (lo := y0) (hi := y3) (lo' := y0) (hi' := y3) (by omega) (by omega) (fun X g1 g2 => by
          by_cases h0 : hull p = []
          · rcases chord_spec p y0 y3 with ⟨e, _⟩ | ⟨h, _⟩
            · rw [e] at hs; exact absurd (show (0 : Int) ≥ 0 by decide) hs
            · exact absurd h0 h
          · exact ⟨in_more h0 (fun p hp => by simp [hp]) g1, in_more h0 (fun p hp => by simp [hp]) g2⟩)
        (fun h => hull_more h (fun p hp => by simp [hp]) (by simp; omega) hr)
      rw [decide_eq_true s1.1, decide_eq_true s1.2, decide_eq_true s2.1, decide_eq_true s2.2]
      simp [awake_true09, law09_PolyWithin_k3]
end Saw
end Go.SL

namespace Go.SL
namespace Saw

theorem find_none' {α ε : Type} [Inhabited α] (l : List α) (L : Nat → Int → Option (ε ⊕ Unit)) (hl : l.length ≤ 1000000) (h0 : ∀ n x, x < l.length → L (n + 1) ((x : Nat) : Int) = L n ((x + 1 : Nat) : Int)) (h1 : ∀ n, L (n + 1) ((l.length : Nat) : Int) = some (.inr ())) : L FUEL 0 = some (.inr ()) := by
  have := loop_find l L (fun _ => none) hl (fun n x hx => h0 n x hx) h1
  rw [this]
  congr 1
  exact findE_none.2 (fun _ _ => rfl)
theorem SectionInside_true (p : List Point) {w : Prop} (_ : w) : law10_SectionInside p = some true := by
  have k1t : law10_SectionInside_k1 p true = some true := by unfold law10_SectionInside_k1; simp [awake_true]
  unfold law10_SectionInside
  by_cases hl : ((p.length : Nat) : Int) > 40
  · rw [decide_eq_true hl]; exact k1t
  rw [decide_eq_false hl, (chk_eq p).2]
  simp only [cond_false, Option.bind_some]
  by_cases hc : chk p = 0
  · rw [show (chk p != 0) = false by simpa using hc]
    unfold law10_SectionInside_k1
    rw [(Of_eq p (by omega)).1]
    simp only [cond_false, Option.bind_some]
    unfold ofR
    rw [if_pos hc]
    by_cases he : (ofS p).Rows = []
    · rw [if_pos he]; simp [nilS, awake_true, law10_SectionInside_k2]
    · rw [if_neg he]
      have hv := VS_of' p
      have b1 := hv.low
      have b2 := hv.high
      have b3 := hv.len
      have hne : ((((ofS p).Rows.length : Nat) : Int) == 0) = false := by
        have : 0 < (ofS p).Rows.length := List.length_pos_iff.2 he
        rw [beq_eq_false_iff_ne]; omega
      simp only [bne_self_eq_false, cond_false, Section.eta, (chk10_eq _).1, (chk10_zero _).2 hv, Option.bind_some, hne, law10_SectionInside_k3, polyHull_eq]
      have loop : law10_SectionInside_L4 (ofS p, 0) (hull p) FUEL 0 = some (.inr ()) := by
        refine find_none' (ofS p).Rows (law10_SectionInside_L4 (ofS p, 0) (hull p)) (by omega) (fun n x hx => ?_) (fun n => ?_)
        · have k := row_at (s := ofS p) (i := x)
          rw [row_of, if_pos (by omega)] at k
          rw [law10_SectionInside_L4]
          simp only
          rw [decide_eq_true (show (x : Int) < _ by omega), inb_t (by omega) (by omega)]
          simp only [cond_true, Int.toNat_natCast, law10_SectionInside_k6, law10_SectionInside_k5, inc_eq (show x < 4611686018427387904 by omega)]
          simp only [← k]
          by_cases hE : (chord p (10 * ((ofS p).Low + x)) (10 * ((ofS p).Low + x + 1))).A ≥ (chord p (10 * ((ofS p).Low + x)) (10 * ((ofS p).Low + x + 1))).B
          · rw [decide_eq_true hE]; rfl
          rw [decide_eq_false hE]
          rcases chord_spec p (10 * ((ofS p).Low + x)) (10 * ((ofS p).Low + x + 1)) with ⟨e, _⟩ | ⟨h0, h1, h2, h3⟩
          · rw [e] at hE; exact absurd (show (0 : Int) ≥ 0 by decide) hE
          have rg := rngS_iff.1 (chord_rng p (10 * ((ofS p).Low + x)) (10 * ((ofS p).Low + x + 1))).1
          generalize chord p (10 * ((ofS p).Low + x)) (10 * ((ofS p).Low + x + 1)) = s at *
          rw [w64_id (n := (ofS p).Low + x) (by omega) (by omega), w64_id (n := (ofS p).Low + x + 1) (by omega) (by omega), w64_id (n := 10 * ((ofS p).Low + x)) (by omega) (by omega), w64_id (n := 10 * ((ofS p).Low + x + 1)) (by omega) (by omega), w64_id (n := s.A - 1) (by omega) (by omega), w64_id (n := s.B + 1) (by omega) (by omega)]
          generalize 10 * ((ofS p).Low + x) = lo at *
          generalize 10 * ((ofS p).Low + x + 1) = hi at *
          have kA := (h3 _).1 ⟨Int.le_refl _, Int.le_of_lt h2⟩
          have kB := (h3 _).1 ⟨Int.le_of_lt h2, Int.le_refl _⟩
          have f1 : ∀ X y, law10_SectionInside_1 X y (hull p) = some (has (hull p) ⟨X, y⟩) := fun X y => by unfold law10_SectionInside_1; rw [(has_eq _ _).1]; rfl
          have n1 : (has (hull p) ⟨s.A - 1, lo⟩ && has (hull p) ⟨s.A - 1, hi⟩) = false := by
            cases hb : (has (hull p) ⟨s.A - 1, lo⟩ && has (hull p) ⟨s.A - 1, hi⟩) with
            | false => rfl
            | true =>
              rw [Bool.and_eq_true, hull_has' h0, hull_has' h0] at hb
              have := (h3 _).2 hb
              omega
          have n2 : (has (hull p) ⟨s.B + 1, lo⟩ && has (hull p) ⟨s.B + 1, hi⟩) = false := by
            cases hb : (has (hull p) ⟨s.B + 1, lo⟩ && has (hull p) ⟨s.B + 1, hi⟩) with
            | false => rfl
            | true =>
              rw [Bool.and_eq_true, hull_has' h0, hull_has' h0] at hb
              have := (h3 _).2 hb
              omega
          simp only [f1, Option.bind_some, (hull_has' h0 _ _).2 kA.1, (hull_has' h0 _ _).2 kA.2, (hull_has' h0 _ _).2 kB.1, (hull_has' h0 _ _).2 kB.2, Bool.not_true, cond_false]
          generalize has (hull p) ⟨s.A - 1, lo⟩ = u1 at *
          generalize has (hull p) ⟨s.A - 1, hi⟩ = u2 at *
          generalize has (hull p) ⟨s.B + 1, lo⟩ = u3 at *
          generalize has (hull p) ⟨s.B + 1, hi⟩ = u4 at *
          cases u1 <;> cases u2 <;> cases u3 <;> cases u4 <;> first | rfl | (exact absurd n1 (by decide)) | (exact absurd n2 (by decide))
        · rw [law10_SectionInside_L4]; simp
      rw [loop]
      simp [awake_true]
  · rw [show (chk p != 0) = true by simpa using hc]; exact k1t
end Saw
end Go.SL
