/- Section's plain mathematics, part 5: Shift, Dropped, Meet, Equal. -/
import Derived.Test.YtjelipmghgcpeaaSMa1
set_option linter.unusedVariables false
set_option linter.unusedSimpArgs false
namespace Go.SL
namespace Saw

/-! ### Shift -/
def shS (dx : Int) (x : Span) : Span := bif empS x then x else ⟨x.A + dx, x.B + dx⟩
def shiftS (s : Section) (dx k : Int) : Section := if s.Rows = [] ∨ dx < -1200 ∨ 1200 < dx ∨ k < -120 ∨ 120 < k then nilS else val10 ⟨s.Low + k, s.Rows.map (shS dx)⟩
theorem shift_loop {s : Section} (h : VS s) {dx : Int} (h1 : -1200 ≤ dx) (h2 : dx ≤ 1200) : section_Shift_L2 dx s FUEL 0 s.Rows = some (s.Rows.map (shS dx)) ∧ ref10_Shift_L2 dx s FUEL 0 [] = some (s.Rows.map (shS dx)) := by
  have b := h.len
  constructor
  · have k := loop_fold s.Rows (fun n (l : List Span) x => section_Shift_L2 dx s n x l) (fun x => (x : Int)) (fun x a l => bif empS a then l else l.set x (shS dx a)) (fun l => l)
      (fun x l => l.length = s.Rows.length ∧ ∀ j, j < s.Rows.length → l.getD j default = if j < x then shS dx (s.Rows.getD j default) else s.Rows.getD j default) (by omega)
      (fun n x l hx hi => by
        obtain ⟨i1, i2⟩ := hi
        have hr := rngS_iff.1 (h.rng _ (getD_mem' hx))
        constructor
        · rw [section_Shift_L2, decide_eq_true (show (x : Int) < _ by omega), inb_t (by omega) (by omega)]
          simp only [cond_true, Int.toNat_natCast, section_isEmpty_eq, Option.bind_some, section_Shift_k3, inc_eq (show x < 4611686018427387904 by omega)]
          rw [inb_t (by omega) (by omega), w64_id (by omega) (by omega), w64_id (by omega) (by omega)]
          unfold shS
          cases empS (s.Rows.getD x default) <;> rfl
        · cases he : empS (s.Rows.getD x default) with
          | true =>
            refine ⟨i1, fun j hj => ?_⟩
            simp only [cond_true]
            rw [i2 j hj]
            by_cases c1 : j < x
            · rw [if_pos c1, if_pos (by omega)]
            · rw [if_neg c1]
              by_cases c2 : j = x
              · subst c2; rw [if_pos (by omega)]; unfold shS; rw [he]; rfl
              · rw [if_neg (by omega)]
          | false =>
            simp only [cond_false]
            refine ⟨by simpa using i1, fun j hj => ?_⟩
            by_cases c2 : j = x
            · subst c2; rw [if_pos (by omega), getD_set_eq _ (by omega)]
            · rw [getD_set_ne _ (fun e => c2 e.symm), i2 j hj]
              by_cases c1 : j < x
              · rw [if_pos c1, if_pos (by omega)]
              · rw [if_neg c1, if_neg (by omega)])
      (fun n l _ => by rw [section_Shift_L2]; simp) (i := 0) rfl s.Rows ⟨rfl, fun j hj => by rw [if_neg (by omega)]⟩
    obtain ⟨k1, k2, k3⟩ := k
    rw [k1]
    congr 1
    refine ext_getD (by simpa using k2) (fun j hj => ?_)
    rw [k2] at hj
    rw [k3 j hj, if_pos hj, getD_map _ _ hj]
  · have k := loop_fold s.Rows (fun n (l : List Span) x => ref10_Shift_L2 dx s n x l) (fun x => (x : Int)) (fun _ a l => l ++ [shS dx a]) (fun l => l) (fun x l => l.length = x) (by omega)
      (fun n x l hx hi => by
        have hr := rngS_iff.1 (h.rng _ (getD_mem' hx))
        refine ⟨?_, by simp [hi]⟩
        rw [ref10_Shift_L2, decide_eq_true (show (x : Int) < _ by omega), inb_t (by omega) (by omega)]
        simp only [cond_true, Int.toNat_natCast, ref10_empty_eq, Option.bind_some, ref10_Shift_k3, inc_eq (show x < 4611686018427387904 by omega)]
        rw [room_t (by omega), w64_id (by omega) (by omega), w64_id (by omega) (by omega)]
        unfold shS
        cases empS (s.Rows.getD x default) <;> rfl)
      (fun n l _ => by rw [ref10_Shift_L2]; simp) (i := 0) rfl [] rfl
    rw [foldi_map (fun _ a => shS dx a), mapi_map, List.nil_append] at k
    exact k.1
theorem Shift_eq (s : Section) {dx k : Int} (_ : i64ok dx) (_ : i64ok k) : section_Shift s dx k = some (shiftS (val10 s) dx k) ∧ ref10_Shift s dx k = some (shiftS (val10 s) dx k) := by
  have h := val10_VS s
  have b1 := h.low
  have b2 := h.high
  have b3 := h.len
  unfold section_Shift ref10_Shift
  rw [(val10_eq s).1, (val10_eq s).2]
  simp only [Option.bind_some]
  generalize val10 s = t at *
  by_cases h0 : t.Rows = []
  · have e : shiftS t dx k = nilS := by unfold shiftS; rw [if_pos (.inl h0)]
    rw [e, h0]
    refine ⟨rfl, ?_⟩
    simp only [List.length_nil]
    cases decide (dx < -1200) <;> cases decide (dx > 1200) <;> cases decide (k < -120) <;> cases decide (k > 120) <;> rfl
  have e0 : (((t.Rows.length : Nat) : Int) == 0) = false := by
    have : 0 < t.Rows.length := List.length_pos_iff.2 h0
    rw [beq_eq_false_iff_ne]; omega
  have hb : 0 < t.Rows.length := List.length_pos_iff.2 h0
  rw [e0]
  simp only [cond_false]
  have dmax : ∀ a b : Int, imax a b > 1200 ↔ a > 1200 ∨ b > 1200 := fun a b => by have := imax_or a b; omega
  have dmin : ∀ a b : Int, imin a b < -1200 ↔ a < -1200 ∨ b < -1200 := fun a b => by have := imin_or a b; omega
  by_cases hd : dx < -1200 ∨ 1200 < dx
  · have e : shiftS t dx k = nilS := by unfold shiftS; rw [if_pos (by omega)]
    rw [e]
    constructor
    · by_cases m1 : imax dx k > 1200
      · rw [decide_eq_true m1]; rfl
      · rw [decide_eq_false m1, decide_eq_true (show imin dx k < -1200 by rw [dmin]; rw [dmax] at m1; omega)]; rfl
    · by_cases m1 : dx < -1200
      · rw [decide_eq_true m1]; rfl
      · rw [decide_eq_false m1, decide_eq_true (show dx > 1200 by omega)]; rfl
  · by_cases hk : k < -120 ∨ 120 < k
    · have e : shiftS t dx k = nilS := by unfold shiftS; rw [if_pos (by omega)]
      rw [e]
      constructor
      · by_cases m1 : imax dx k > 1200
        · rw [decide_eq_true m1]; rfl
        · rw [decide_eq_false m1]
          by_cases m2 : imin dx k < -1200
          · rw [decide_eq_true m2]; rfl
          · rw [decide_eq_false m2]
            rw [dmax] at m1
            rw [dmin] at m2
            have nv : val10 ⟨t.Low + k, t.Rows.map (shS dx)⟩ = nilS := by
              unfold val10
              rw [if_neg]
              rw [chk10_zero]
              intro hv
              have c1 := hv.low
              have c2 := hv.high
              simp only [List.length_map] at c1 c2
              omega
            unfold section_Shift_k1 slices_Clone_SSpan
            rw [room_t (by omega)]
            simp only [cond_false, cond_true, Option.bind_some, (shift_loop h (dx := dx) (by omega) (by omega)).1, w64_id (n := t.Low + k) (by omega) (by omega), (val10_eq _).1, nv]
      · by_cases m1 : k < -120
        · rw [decide_eq_true m1, decide_eq_false (show ¬ dx < -1200 by omega), decide_eq_false (show ¬ dx > 1200 by omega)]; rfl
        · rw [decide_eq_false m1, decide_eq_true (show k > 120 by omega), decide_eq_false (show ¬ dx < -1200 by omega), decide_eq_false (show ¬ dx > 1200 by omega)]; rfl
    · have e : shiftS t dx k = val10 ⟨t.Low + k, t.Rows.map (shS dx)⟩ := by unfold shiftS; rw [if_neg (by rw [not_or]; exact ⟨h0, by omega⟩)]
      rw [e]
      constructor
      · rw [decide_eq_false (show ¬ imax dx k > 1200 by rw [dmax]; omega), decide_eq_false (show ¬ imin dx k < -1200 by rw [dmin]; omega)]
        unfold section_Shift_k1 slices_Clone_SSpan
        rw [room_t (by omega)]
        simp only [cond_false, cond_true, Option.bind_some, (shift_loop h (dx := dx) (by omega) (by omega)).1, w64_id (n := t.Low + k) (by omega) (by omega), (val10_eq _).1]
      · rw [decide_eq_false (show ¬ dx < -1200 by omega), decide_eq_false (show ¬ dx > 1200 by omega), decide_eq_false (show ¬ k < -120 by omega), decide_eq_false (show ¬ k > 120 by omega)]
        unfold ref10_Shift_k1
        simp only [cond_false, cond_true, Option.bind_some, (shift_loop h (dx := dx) (by omega) (by omega)).2, w64_id (n := t.Low + k) (by omega) (by omega), (val10_eq _).2]
theorem VS_shift (s : Section) (dx k : Int) : VS (shiftS s dx k) := by
  unfold shiftS
  split
  · exact VS_nil
  · exact val10_VS _
theorem SectionMoves_true (s : Section) (dx k : Int) {w : Prop} (_ : w) (h1 : i64ok dx) (h2 : i64ok k) : law10_SectionMoves s dx k = some true := by
  unfold law10_SectionMoves
  rw [few_eq]
  simp only [Option.bind_some]
  cases decide (s.Rows.length ≤ 200) with
  | false => simp [awake_true]
  | true =>
    have l1 := (VS_shift (val10 s) dx k).len
    have l2 := (VS_mir (val10_VS s)).len
    have l3 := (VS_flip (val10_VS s)).len
    simp only [Bool.not_true, cond_false, (Shift_eq s h1 h2).1, (Shift_eq s h1 h2).2, (Mirror_eq s).1, (Mirror_eq s).2, (Flip_eq s).1, (Flip_eq s).2, Option.bind_some, Section.eta, same_self _ (Nat.le_trans l1 (by decide)), same_self _ (Nat.le_trans l2 (by decide)), same_self _ (Nat.le_trans l3 (by decide)), cond_true, awake_true, law10_SectionMoves_k1]
end Saw
end Go.SL

namespace Go.SL
namespace Saw

theorem dropped_L1 (l : List Span) (hl : l.length ≤ 1000) : ∀ (n x : Nat), l.length < x + n → x ≤ l.length → (∀ j, j < x → empS (l.getD j default) = true) →
    ∃ f : Nat, ref10_Dropped_L1 l n (x : Int) = some (f : Int) ∧ f ≤ l.length ∧ (∀ j, j < f → empS (l.getD j default) = true) ∧ (f < l.length → empS (l.getD f default) = false)
  | 0, x, h1, h2, _ => by omega
  | n + 1, x, h1, h2, h3 => by
    rw [ref10_Dropped_L1]
    by_cases hx : x < l.length
    · rw [decide_eq_true (show (x : Int) < _ by omega), inb_t (by omega) (by omega)]
      simp only [cond_true, Int.toNat_natCast, ref10_empty_eq, Option.bind_some, ref10_Dropped_k2, inc_eq (show x < 4611686018427387904 by omega)]
      cases he : empS (l.getD x default) with
      | true =>
        exact dropped_L1 l hl n (x + 1) (by omega) (by omega) (fun j hj => by
          by_cases hjx : j = x
          · rw [hjx]; exact he
          · exact h3 j (by omega))
      | false => exact ⟨x, rfl, by omega, h3, fun _ => he⟩
    · rw [decide_eq_false (show ¬ (x : Int) < _ by omega)]
      exact ⟨x, rfl, by omega, h3, fun h => absurd h hx⟩
theorem dropped_L3 (l : List Span) (hl : l.length ≤ 1000) (f : Nat) : ∀ (n x : Nat), x < n + f → f ≤ x → x ≤ l.length → (∀ j, x ≤ j → j < l.length → empS (l.getD j default) = true) →
    ∃ t : Nat, ref10_Dropped_L3 l (f : Int) n (x : Int) = some (t : Int) ∧ f ≤ t ∧ t ≤ l.length ∧ (∀ j, t ≤ j → j < l.length → empS (l.getD j default) = true) ∧ (f < t → empS (l.getD (t - 1) default) = false)
  | 0, x, h1, h2, _, _ => by omega
  | n + 1, x, h1, h2, h3, h4 => by
    rw [ref10_Dropped_L3]
    by_cases hx : f < x
    · rw [decide_eq_true (show (x : Int) > (f : Int) by omega), w64_id (by omega) (by omega), inb_t (by omega) (by omega), show (x : Int) - 1 = ((x - 1 : Nat) : Int) by omega]
      simp only [cond_true, Int.toNat_natCast, ref10_empty_eq, Option.bind_some, ref10_Dropped_k4]
      cases he : empS (l.getD (x - 1) default) with
      | true =>
        rw [w64_id (by omega) (by omega), show (x : Int) - 1 = ((x - 1 : Nat) : Int) by omega]
        exact dropped_L3 l hl f n (x - 1) (by omega) (by omega) (by omega) (fun j h5 h6 => by
          by_cases hjx : j = x - 1
          · rw [hjx]; exact he
          · exact h4 j (by omega) h6)
      | false => exact ⟨x, rfl, by omega, by omega, h4, fun _ => he⟩
    · rw [decide_eq_false (show ¬ (x : Int) > (f : Int) by omega)]
      exact ⟨x, rfl, by omega, by omega, h4, fun h => by omega⟩
theorem dropped_L5 (l : List Span) (hl : l.length ≤ 1000) (t : Nat) (ht : t ≤ l.length) : ∀ (n x : Nat) (o : List Span), t < x + n → x ≤ t → o.length ≤ x → ∃ o', ref10_Dropped_L5 l (t : Int) n (x : Int) o = some (o ++ o') ∧ o'.length = t - x ∧ ∀ i, i < t - x → o'.getD i default = nrm (l.getD (x + i) default)
  | 0, x, o, h1, h2, _ => by omega
  | n + 1, x, o, h1, h2, h3 => by
    rw [ref10_Dropped_L5]
    by_cases hx : x < t
    · rw [decide_eq_true (show (x : Int) < (t : Int) by omega), inb_t (by omega) (by omega)]
      have e : (bif empS (l.getD x default) then ref10_Dropped_k6 (x : Int) o (ref10_Dropped_L5 l (t : Int) n) ⟨0, 0⟩ else ref10_Dropped_k6 (x : Int) o (ref10_Dropped_L5 l (t : Int) n) (l.getD x default)) = ref10_Dropped_L5 l (t : Int) n ((x + 1 : Nat) : Int) (o ++ [nrm (l.getD x default)]) := by
        unfold ref10_Dropped_k6 nrm
        rw [room_t (by omega), inc_eq (by omega)]
        cases empS (l.getD x default) <;> rfl
      simp only [cond_true, Int.toNat_natCast, ref10_empty_eq, Option.bind_some]
      rw [e]
      obtain ⟨o', k1, k2, k3⟩ := dropped_L5 l hl t ht n (x + 1) (o ++ [nrm (l.getD x default)]) (by omega) (by omega) (by simp; omega)
      refine ⟨nrm (l.getD x default) :: o', by rw [k1]; simp, by simp; omega, fun i hi => ?_⟩
      cases i with
      | zero => rfl
      | succ i =>
        have := k3 i (by omega)
        rw [show x + (i + 1) = x + 1 + i by omega]
        simpa using this
    · rw [decide_eq_false (show ¬ (x : Int) < (t : Int) by omega)]
      exact ⟨[], by simp, by simp; omega, fun i hi => by omega⟩
theorem dropped_eq (l : List Span) (hl : l.length = 120) : ref10_Dropped (-60) l = some (secOf fun j => l.getD j default) := by
  obtain ⟨f, f1, f2, f3, f4⟩ := dropped_L1 l (by omega) FUEL 0 (by rw [FUEL_eq]; omega) (by omega) (fun j hj => by omega)
  obtain ⟨t, t1, t2, t3, t4, t5⟩ := dropped_L3 l (by omega) f FUEL l.length (by rw [FUEL_eq]; omega) f2 (Nat.le_refl _) (fun j h1 h2 => by omega)
  have f1' : ref10_Dropped_L1 l FUEL 0 = some (f : Int) := f1
  unfold ref10_Dropped
  rw [f1']
  simp only [Option.bind_some]
  rw [t1]
  simp only [Option.bind_some]
  obtain ⟨g1, g2⟩ := secOf_spec (fun j => l.getD j default)
  by_cases hft : f = t
  · rw [show ((f : Int) == (t : Int)) = true by rw [hft]; simp]
    simp only [cond_true]
    congr 1
    refine sec_ext (s := nilS) VS_nil.toTrim g1 (fun r => ?_)
    have : row nilS r = ⟨0, 0⟩ := by unfold row nilS; split <;> rfl
    rw [this, g2 r]
    unfold rowsOf
    split
    · rw [nrm_emp]
      by_cases hj : (r + 60).toNat < f
      · exact f3 _ hj
      · exact t4 _ (by omega) (by omega)
    · rfl
  · obtain ⟨o, o1, o2, o3⟩ := dropped_L5 l (by omega) t t3 FUEL f [] (by rw [FUEL_eq]; omega) t2 (by simp)
    rw [show ((f : Int) == (t : Int)) = false by rw [beq_eq_false_iff_ne]; omega]
    simp only [cond_false]
    rw [o1, w64_id (by omega) (by omega)]
    simp only [Option.bind_some, List.nil_append]
    congr 1
    refine sec_ext ⟨fun e => ?_, fun _ => ?_, fun _ => ?_⟩ g1 (fun r => ?_)
    · have e' : o = [] := e
      rw [e'] at o2; simp at o2; omega
    · show empS (o.getD 0 default) = false
      rw [o3 0 (by omega), emp_nrm]; exact f4 (by omega)
    · show empS (o.getD (o.length - 1) default) = false
      rw [o2, o3 _ (by omega), emp_nrm, show f + (t - f - 1) = t - 1 by omega]; exact t5 (by omega)
    · rw [g2 r]
      unfold row rowsOf
      simp only
      by_cases c1 : r < -60 + (f : Int)
      · rw [if_pos c1]
        split
        · rw [nrm_emp (f3 _ (by omega))]
        · rfl
      · rw [if_neg c1]
        by_cases c2 : (r - (-60 + (f : Int))).toNat < t - f
        · rw [o3 _ c2, if_pos (by omega)]
          congr 2
          omega
        · rw [getD_ge (by omega)]
          split
          · rw [nrm_emp (t4 _ (by omega) (by omega))]; rfl
          · rfl
/-! ### Meet -/
def mxS (x y : Span) : Span := ⟨imax x.A y.A, imin x.B y.B⟩
theorem span_Meet_eq (x y : Span) : span_Meet x y = some (nrm (mxS x y)) := by
  unfold span_Meet nrm mxS empS
  simp only [ge_iff_le]
  cases decide (imin x.B y.B ≤ imax x.A y.A) <;> rfl
noncomputable def meetS (a b : Section) : Section := secOf (fun j => mxS (row a ((j : Int) - 60)) (row b ((j : Int) - 60)))
theorem secOf_congr {g g' : Nat → Span} (h : ∀ j, j < 120 → nrm (g j) = nrm (g' j)) : secOf g = secOf g' := by
  refine sec_ext (secOf_spec g).1 (secOf_spec g').1 (fun r => ?_)
  rw [(secOf_spec g).2, (secOf_spec g').2]
  unfold rowsOf
  split
  · exact h _ (by omega)
  · rfl
theorem meet_eq {a b : Section} (ha : VS a) (hb : VS b) : section_build_s3 a b = some (meetS a b) := by
  have m1 : ∀ r : Int, -60 ≤ r → r < 60 → section_Meet_1 r a b = some (nrm (mxS (row a r) (row b r))) := fun r h1 h2 => by
    unfold section_Meet_1
    rw [(at_eq ha h1 h2).1, (at_eq hb h1 h2).1]
    simp only [Option.bind_some, span_Meet_eq]
  unfold section_build_s3 meetS
  rw [secOf_congr (g' := fun j => nrm (mxS (row a ((j : Int) - 60)) (row b ((j : Int) - 60)))) (fun j _ => (nrm_nrm _).symm)]
  refine build_gen (fun j => nrm (mxS (row a ((j : Int) - 60)) (row b ((j : Int) - 60)))) (section_build_s3_L1 a b) (fun n x u w l hx => ?_) (fun n u w l => ?_)
  · rw [section_build_s3_L1, decide_eq_true (show (x : Int) - 60 < 60 by omega), m1 _ (by omega) (by omega)]
    simp only [cond_true, Option.bind_some, section_isEmpty_eq, section_build_s3_k2, section_build_s3_k3]
  · rw [section_build_s3_L1]; rfl
theorem refMeet_eq {a b : Section} (ha : VS a) (hb : VS b) : ((ref10_Meet_L1 a b FUEL [] (-60)).bind fun o => (ref10_Dropped (-60) o).bind fun v => some (Section.mk v.Low v.Rows)) = some (meetS a b) := by
  have k := loop_fold (List.range 120) (fun n (l : List Span) x => ref10_Meet_L1 a b n l x) (fun x => (x : Int) - 60) (fun x (_ : Nat) l => l ++ [mxS (row a ((x : Int) - 60)) (row b ((x : Int) - 60))]) (fun l => l) (fun x l => l.length = x) (by simp)
    (fun n x l hx hi => by
      have hx' : x < 120 := by simpa using hx
      refine ⟨?_, by simp [hi]⟩
      rw [ref10_Meet_L1, decide_eq_true (show (x : Int) - 60 < 60 by omega), (at_eq ha (by omega) (by omega)).2, (at_eq hb (by omega) (by omega)).2]
      simp only [cond_true, Option.bind_some]
      rw [room_t (by omega), w64_id (by omega) (by omega), show (x : Int) - 60 + 1 = ((x + 1 : Nat) : Int) - 60 by omega]
      rfl)
    (fun n l _ => by
      have e : (((List.range 120).length : Nat) : Int) - 60 = 60 := by rw [List.length_range]; rfl
      simp only [e]
      rw [ref10_Meet_L1]; rfl) (i := -60) rfl [] rfl
  rw [foldi_map (fun x (_ : Nat) => mxS (row a ((x : Int) - 60)) (row b ((x : Int) - 60))), List.nil_append] at k
  rw [k.1]
  simp only [Option.bind_some]
  rw [dropped_eq _ (by rw [mapi_len]; simp)]
  simp only [Option.bind_some]
  have e : secOf (fun j => (mapi (fun x (_ : Nat) => mxS (row a ((x : Int) - 60)) (row b ((x : Int) - 60))) 0 (List.range 120)).getD j default) = meetS a b := by
    unfold meetS
    refine secOf_congr (fun j hj => ?_)
    rw [mapi_get _ _ _ _ (by rw [List.length_range]; exact hj), Nat.zero_add]
  rw [Section.eta, e]
theorem Meet_eq (a b : Section) : section_Meet a b = some (meetS (val10 a) (val10 b)) ∧ ref10_Meet a b = some (meetS (val10 a) (val10 b)) := by
  unfold section_Meet ref10_Meet
  rw [(val10_eq a).1, (val10_eq a).2, (val10_eq b).1, (val10_eq b).2]
  simp only [Option.bind_some]
  rw [meet_eq (val10_VS a) (val10_VS b)]
  exact ⟨rfl, refMeet_eq (val10_VS a) (val10_VS b)⟩
theorem rng_meet {x y : Span} (h1 : rngS x = true) (h2 : rngS y = true) : rngS (nrm (mxS x y)) = true := by
  cases he : empS (mxS x y) with
  | true => rw [nrm_emp he]; rfl
  | false =>
    rw [nrm_ne he]
    rw [rngS_iff] at *
    have a1 := imax_or x.A y.A
    have a2 := imin_or x.B y.B
    unfold mxS
    simp only
    omega
theorem VS_meet {a b : Section} (ha : VS a) (hb : VS b) : VS (meetS a b) := secOf_VS (fun j _ => rng_meet (ha.row_rng _) (hb.row_rng _))
theorem row_meet {a b : Section} (ha : VS a) (hb : VS b) (r : Int) : row (meetS a b) r = nrm (mxS (row a r) (row b r)) := by
  unfold meetS
  rw [secOf_row (fun r => mxS (row a r) (row b r))]
  split
  · rfl
  · rw [ha.row_out (by omega), hb.row_out (by omega)]; rfl
/-! ### Equal -/
theorem Equal_eq (a b : Section) : section_Equal a b = ref10_Equal a b ∧ ∃ e, section_Equal a b = some e := by
  have ha := (val10_VS a).len
  have hb := (val10_VS b).len
  unfold section_Equal ref10_Equal
  rw [(val10_eq a).1, (val10_eq a).2, (val10_eq b).1, (val10_eq b).2]
  simp only [Option.bind_some]
  generalize val10 a = s at *
  generalize val10 b = t at *
  by_cases h0 : s.Low = t.Low
  · rw [show (s.Low == t.Low) = true by simpa using h0, show (s.Low != t.Low) = false by simpa using h0]
    simp only [cond_true, cond_false, section_Equal_k1, ref10_Equal_k1, slices_Equal_SSpan]
    by_cases h1 : s.Rows.length = t.Rows.length
    · rw [show (((s.Rows.length : Nat) : Int) != ((t.Rows.length : Nat) : Int)) = false by rw [h1]; simp]
      have k1 : slices_Equal_SSpan_L1 s.Rows t.Rows = ref10_Equal_L2 s t := by
        funext n
        induction n with
        | zero => funext x; rw [slices_Equal_SSpan_L1, ref10_Equal_L2]
        | succ n ih => funext x; rw [slices_Equal_SSpan_L1, ref10_Equal_L2, ih]
      have k2 : ∀ (n x : Nat), s.Rows.length < x + n → x ≤ s.Rows.length → ∃ e, ref10_Equal_L2 s t n (x : Int) = some e := by
        intro n
        induction n with
        | zero => intro x h2 h3; omega
        | succ n ih =>
          intro x h2 h3
          rw [ref10_Equal_L2]
          by_cases hx : x < s.Rows.length
          · rw [decide_eq_true (show (x : Int) < _ by omega), inb_t (by omega) (by omega), inb_t (by omega) (by omega), inc_eq (by omega)]
            simp only [cond_true]
            cases !(((s.Rows.getD (x : Int).toNat default).A == (t.Rows.getD (x : Int).toNat default).A) && (((s.Rows.getD (x : Int).toNat default).B == (t.Rows.getD (x : Int).toNat default).B) && true)) with
            | true => exact ⟨_, rfl⟩
            | false => exact ih (x + 1) (by omega) (by omega)
          · rw [decide_eq_false (show ¬ (x : Int) < _ by omega)]; exact ⟨_, rfl⟩
      obtain ⟨e, he⟩ := k2 FUEL 0 (by rw [FUEL_eq]; omega) (by omega)
      have he' : ref10_Equal_L2 s t FUEL 0 = some e := he
      simp only [cond_false, k1, he', Option.bind_some]
      cases e with
      | inl v => exact ⟨rfl, v, rfl⟩
      | inr u => exact ⟨rfl, true, rfl⟩
    · rw [show (((s.Rows.length : Nat) : Int) != ((t.Rows.length : Nat) : Int)) = true by simp; omega]
      exact ⟨rfl, false, rfl⟩
  · rw [show (s.Low == t.Low) = false by simpa using h0, show (s.Low != t.Low) = true by simpa using h0]
    exact ⟨rfl, false, rfl⟩
theorem SectionMeets_true (a b : Section) {w w' : Prop} (_ : w) (_ : w') : law10_SectionMeets a b = some true := by
  have l1 := (VS_meet (val10_VS a) (val10_VS b)).len
  obtain ⟨e1, e, e2⟩ := Equal_eq a b
  have main : law10_SectionMeets_k1 a b false = some true := by
    unfold law10_SectionMeets_k1
    simp only [cond_false, (Meet_eq a b).1, (Meet_eq a b).2, Option.bind_some, Section.eta, same_self _ (Nat.le_trans l1 (by decide)), cond_true, ← e1, e2, beq_self_eq_true, awake_true, law10_SectionMeets_k2]
  have other : law10_SectionMeets_k1 a b true = some true := by
    unfold law10_SectionMeets_k1
    simp only [cond_true, awake_true, Option.bind_some]
  unfold law10_SectionMeets
  rw [few_eq, few_eq]
  simp only [Option.bind_some]
  cases decide (a.Rows.length ≤ 200) <;> cases decide (b.Rows.length ≤ 200) <;> simp [main, other]
end Saw
end Go.SL

namespace Go.SL
namespace Saw

def lenS (x : Span) : Int := bif empS x then 0 else x.B - x.A
theorem u64_id {n : Int} (h1 : 0 ≤ n) (h2 : n < 18446744073709551616) : IntKind.u64.wrap n = n := by
  unfold IntKind.wrap
  simp only [IntKind.bits, IntKind.signed, Bool.false_and]
  simp
  omega
theorem u64_eq (n : Int) : IntKind.u64.wrap n = n % 18446744073709551616 := by
  unfold IntKind.wrap
  simp only [IntKind.bits, IntKind.signed, Bool.false_and]
  simp
theorem span_Len_eq {x : Span} (h : x.B - x.A ≤ 9223372036854775807) : span_Len x = some (lenS x) := by
  unfold span_Len span_size span_limited lenS empS
  by_cases he : x.B ≤ x.A
  · rw [decide_eq_true (show x.A ≥ x.B from he)]; rfl
  · rw [decide_eq_false (show ¬ x.A ≥ x.B from he), u64_eq, u64_eq, u64_eq]
    simp only [cond_false, Option.bind_some]
    rw [show (x.B % 18446744073709551616 - x.A % 18446744073709551616) % 18446744073709551616 = x.B - x.A by omega]
    have : imin (x.B - x.A) 9223372036854775807 = x.B - x.A := by have := imin_or (x.B - x.A) 9223372036854775807; omega
    rw [this, w64_id (by omega) (by omega)]
theorem len_nrm (x : Span) : lenS (nrm x) = lenS x := by
  unfold lenS
  rw [emp_nrm]
  cases h : empS x with
  | true => rfl
  | false => rw [nrm_ne h]
theorem len_nn (x : Span) : 0 ≤ lenS x := by unfold lenS empS; by_cases h : x.B ≤ x.A <;> simp [h]; omega
/-- The length of the common part. -/
def ml (x y : Span) : Int := lenS (mxS x y)
theorem ml_b {x : Span} (y : Span) (h : rngS x = true) : 0 ≤ ml x y ∧ ml x y ≤ 1200 ∧ ml x y ≤ lenS x := by
  rw [rngS_iff] at h
  have a1 := imax_or x.A y.A
  have a2 := imin_or x.B y.B
  unfold ml lenS empS mxS
  simp only
  by_cases c : imin x.B y.B ≤ imax x.A y.A
  · rw [decide_eq_true c]
    by_cases c2 : x.B ≤ x.A
    · rw [decide_eq_true c2]; simp
    · rw [decide_eq_false c2]; simp; omega
  · rw [decide_eq_false c, decide_eq_false (show ¬ x.B ≤ x.A by omega)]
    simp only [cond_false]
    omega
theorem mx_b {x y : Span} (h : rngS x = true) : (nrm (mxS x y)).B - (nrm (mxS x y)).A ≤ 1200 := by
  cases he : empS (mxS x y) with
  | true => rw [nrm_emp he]; decide
  | false =>
    rw [nrm_ne he]
    rw [rngS_iff] at h
    have a1 := imax_or x.A y.A
    have a2 := imin_or x.B y.B
    unfold mxS
    simp only
    omega
theorem ml_eq {x : Span} (y : Span) (h : rngS x = true) : span_Len (nrm (mxS x y)) = some (ml x y) := by
  have := mx_b (y := y) h
  rw [span_Len_eq (by omega), len_nrm]; rfl
theorem common_eq {x : Span} (y : Span) (h : rngS x = true) : ref10_common x y = some (ml x y) := by
  have b := mx_b (y := y) h
  have a1 := imax_or x.A y.A
  have a2 := imin_or x.B y.B
  unfold ref10_common ref10_common_k1 ref10_empty
  simp only [Option.bind_some]
  unfold ml lenS empS mxS
  simp only
  by_cases c : imin x.B y.B ≤ imax x.A y.A
  · rw [decide_eq_true c]
    cases decide (y.A ≥ y.B) <;> simp [c]
  · rw [decide_eq_false c, decide_eq_false (show ¬ y.A ≥ y.B by omega)]
    rw [rngS_iff] at h
    simp only [cond_false]
    rw [w64_id (by omega) (by omega)]
/-- The heights of a row. -/
def hgt (r : Int) : Span := ⟨10 * r, 10 * (r + 1)⟩
theorem hgt_rng {r : Int} (h1 : -60 ≤ r) (h2 : r < 60) : rngS (hgt r) = true := by rw [rngS_iff]; unfold hgt; simp only; omega
theorem hgt_len (r : Int) : lenS (hgt r) = 10 := by unfold lenS empS hgt; simp only; rw [decide_eq_false (by omega)]; simp only [cond_false]; omega
theorem hgt_eq {r : Int} (h1 : -60 ≤ r) (h2 : r < 60) : section_heights r (w64 (r + 1)) = some (hgt r) ∧ ref10_Heights r = some (hgt r) := by
  unfold section_heights ref10_Heights hgt
  rw [w64_id (n := r + 1) (by omega) (by omega), w64_id (by omega) (by omega), w64_id (by omega) (by omega)]
  exact ⟨rfl, rfl⟩
/-! ### Sums -/
def sumN : Nat → (Nat → Int) → Int
  | 0, _ => 0
  | n + 1, f => sumN n f + f n
theorem sumN_congr {n : Nat} {f g : Nat → Int} (h : ∀ i, i < n → f i = g i) : sumN n f = sumN n g := by
  induction n with
  | zero => rfl
  | succ n ih => rw [sumN, sumN, ih (fun i hi => h i (by omega)), h n (by omega)]
theorem sumN_zero {n : Nat} {f : Nat → Int} (h : ∀ i, i < n → f i = 0) : sumN n f = 0 := by
  induction n with
  | zero => rfl
  | succ n ih => rw [sumN, ih (fun i hi => h i (by omega)), h n (by omega)]; rfl
theorem sumN_split (m n : Nat) (f : Nat → Int) : sumN (m + n) f = sumN m f + sumN n (fun i => f (m + i)) := by
  induction n with
  | zero => simp [sumN]
  | succ n ih => rw [← Nat.add_assoc, sumN, ih, sumN]; omega
theorem sumN_add (n : Nat) (f g : Nat → Int) : sumN n (fun i => f i + g i) = sumN n f + sumN n g := by
  induction n with
  | zero => rfl
  | succ n ih => rw [sumN, sumN, sumN, ih]; omega
theorem sumN_mul (n : Nat) (c : Int) (f : Nat → Int) : sumN n (fun i => c * f i) = c * sumN n f := by
  induction n with
  | zero => simp [sumN]
  | succ n ih => rw [sumN, sumN, ih, Int.mul_add]
theorem sumN_le {n : Nat} {f g : Nat → Int} (h : ∀ i, i < n → f i ≤ g i) : sumN n f ≤ sumN n g := by
  induction n with
  | zero => exact Int.le_refl _
  | succ n ih => rw [sumN, sumN]; have := ih (fun i hi => h i (by omega)); have := h n (by omega); omega
theorem sumN_rev (n : Nat) (f : Nat → Int) : sumN n (fun i => f (n - 1 - i)) = sumN n f := by
  induction n generalizing f with
  | zero => rfl
  | succ n ih =>
    have e := sumN_split 1 n f
    rw [Nat.add_comm 1 n] at e
    rw [e, sumN, ← ih (fun i => f (1 + i))]
    have : sumN n (fun i => f (n + 1 - 1 - i)) = sumN n (fun i => f (1 + (n - 1 - i))) := sumN_congr (fun i hi => by congr 1; omega)
    rw [this]
    simp [sumN]
    omega
theorem sumN_shift (n : Nat) (f : Nat → Int) : sumN (n + 1) f = f 0 + sumN n (fun i => f (i + 1)) := by
  have e := sumN_split 1 n f
  rw [Nat.add_comm 1 n] at e
  rw [e]
  have : sumN n (fun i => f (1 + i)) = sumN n (fun i => f (i + 1)) := sumN_congr (fun i _ => by rw [Nat.add_comm])
  rw [this]
  simp [sumN]
theorem foldi_sum {α : Type} [Inhabited α] (F : Nat → α → Int) : ∀ (l : List α) (x : Nat) (s : Int), foldi (fun x a s => s + F x a) x l s = s + sumN l.length (fun i => F (x + i) (l.getD i default))
  | [], x, s => by simp [foldi, sumN]
  | a :: l, x, s => by
    unfold foldi
    rw [foldi_sum F l (x + 1) (s + F x a), List.length_cons, sumN_shift]
    have : sumN l.length (fun i => F (x + 1 + i) (l.getD i default)) = sumN l.length (fun i => F (x + (i + 1)) ((a :: l).getD (i + 1) default)) := sumN_congr (fun i _ => by rw [show x + 1 + i = x + (i + 1) by omega]; simp)
    rw [this]
    simp
    omega
/-- The sum over all rows. -/
def sumR (f : Int → Int) : Int := sumN 120 (fun j => f ((j : Int) - 60))
theorem sumR_congr {f g : Int → Int} (h : ∀ r, -60 ≤ r → r < 60 → f r = g r) : sumR f = sumR g := sumN_congr (fun i hi => h _ (by omega) (by omega))
theorem sum_rows {s : Section} (h : VS s) (F : Int → Span → Int) (h0 : ∀ r, F r ⟨0, 0⟩ = 0) : sumN s.Rows.length (fun i => F (s.Low + i) (s.Rows.getD i default)) = sumR (fun r => F r (row s r)) := by
  have b1 := h.low
  have b2 := h.high
  have b3 := h.len
  unfold sumR
  have e : 120 = (s.Low + 60).toNat + (s.Rows.length + (120 - (s.Low + 60).toNat - s.Rows.length)) := by omega
  rw [e, sumN_split, sumN_split]
  have z1 : sumN (s.Low + 60).toNat (fun j => F ((j : Int) - 60) (row s ((j : Int) - 60))) = 0 := sumN_zero (fun i hi => by
    have : row s ((i : Int) - 60) = ⟨0, 0⟩ := by unfold row; rw [if_pos (by omega)]
    rw [this, h0])
  have z2 : sumN (120 - (s.Low + 60).toNat - s.Rows.length) (fun i => F ((((s.Low + 60).toNat + (s.Rows.length + i) : Nat) : Int) - 60) (row s ((((s.Low + 60).toNat + (s.Rows.length + i) : Nat) : Int) - 60))) = 0 := sumN_zero (fun i hi => by
    have : row s ((((s.Low + 60).toNat + (s.Rows.length + i) : Nat) : Int) - 60) = ⟨0, 0⟩ := by
      unfold row; rw [if_neg (by omega), getD_ge (by omega)]; rfl
    rw [this, h0])
  have z3 : sumN s.Rows.length (fun i => F ((((s.Low + 60).toNat + i : Nat) : Int) - 60) (row s ((((s.Low + 60).toNat + i : Nat) : Int) - 60))) = sumN s.Rows.length (fun i => F (s.Low + i) (s.Rows.getD i default)) := sumN_congr (fun i hi => by
    have : (((s.Low + 60).toNat + i : Nat) : Int) - 60 = s.Low + i := by omega
    rw [this, row_at])
  rw [z1, z3]
  rw [z2]
  omega
/-! ### Area -/
def areaS (s : Section) : Int := 10 * sumR (fun r => lenS (row s r))
def withinS (s : Section) (x y : Span) : Int := sumR (fun r => ml (row s r) x * ml (hgt r) y)
theorem VS.len_b {s : Section} (h : VS s) {i : Nat} (hi : i < s.Rows.length) : 0 ≤ lenS (s.Rows.getD i default) ∧ lenS (s.Rows.getD i default) ≤ 1200 ∧ (s.Rows.getD i default).B - (s.Rows.getD i default).A = lenS (s.Rows.getD i default) := by
  have m := getD_mem' hi
  have r := rngS_iff.1 (h.rng _ m)
  have z := h.zero _ m
  have e : lenS (s.Rows.getD i default) = bif empS (s.Rows.getD i default) then 0 else (s.Rows.getD i default).B - (s.Rows.getD i default).A := rfl
  cases he : empS (s.Rows.getD i default) with
  | true => rw [z he]; decide
  | false =>
    rw [he] at e
    simp only [cond_false] at e
    have hlt : ¬ (s.Rows.getD i default).B ≤ (s.Rows.getD i default).A := of_decide_eq_false he
    omega
theorem Area_eq (s : Section) : section_Area s = some (areaS (val10 s)) ∧ ref10_Area s = some (areaS (val10 s)) := by
  have h := val10_VS s
  unfold section_Area ref10_Area
  rw [(val10_eq s).1, (val10_eq s).2]
  simp only [Option.bind_some]
  generalize val10 s = t at *
  have b := h.len
  have k1 := loop_fold t.Rows (fun n (a : Int) x => section_Area_L1 t n a x) (fun x => (x : Int)) (fun _ a s => s + lenS a) (fun s => s) (fun x s => 0 ≤ s ∧ s ≤ 1200 * (x : Int)) (by omega)
    (fun n x a hx hi => by
      have l := h.len_b hx
      refine ⟨?_, by omega⟩
      rw [section_Area_L1, decide_eq_true (show (x : Int) < _ by omega), inb_t (by omega) (by omega), inc_eq (by omega)]
      simp only [cond_true, Int.toNat_natCast]
      rw [span_Len_eq (by omega)]
      simp only [Option.bind_some]
      rw [w64_id (by omega) (by omega)])
    (fun n a _ => by rw [section_Area_L1]; simp) (i := 0) rfl 0 (by omega)
  have k2 := loop_fold t.Rows (fun n (a : Int) x => ref10_Area_L1 t n a x) (fun x => (x : Int)) (fun _ a s => s + 10 * lenS a) (fun s => s) (fun x s => 0 ≤ s ∧ s ≤ 12000 * (x : Int)) (by omega)
    (fun n x a hx hi => by
      have l := h.len_b hx
      refine ⟨?_, by omega⟩
      rw [ref10_Area_L1, decide_eq_true (show (x : Int) < _ by omega), inb_t (by omega) (by omega), inc_eq (by omega)]
      simp only [cond_true, Int.toNat_natCast]
      rw [l.2.2, w64_id (n := lenS _) (by omega) (by omega), w64_id (n := 10 * lenS _) (by omega) (by omega), w64_id (by omega) (by omega)])
    (fun n a _ => by rw [ref10_Area_L1]; simp) (i := 0) rfl 0 (by omega)
  rw [foldi_sum (fun _ a => lenS a)] at k1
  rw [foldi_sum (fun _ a => 10 * lenS a), sumN_mul] at k2
  have e := sum_rows h (fun _ a => lenS a) (fun _ => rfl)
  rw [e, Int.zero_add] at k1 k2
  rw [k1.1, k2.1]
  simp only [Option.bind_some]
  unfold areaS
  have := k1.2
  rw [w64_id (by omega) (by omega)]
  exact ⟨rfl, rfl⟩
theorem Within_eq (s : Section) (R : Rect) : section_Within s R = some (withinS (val10 s) R.X R.Y) ∧ ref10_Within s R = some (withinS (val10 s) R.X R.Y) := by
  have h := val10_VS s
  unfold section_Within ref10_Within
  rw [(val10_eq s).1, (val10_eq s).2]
  simp only [Option.bind_some]
  generalize val10 s = t at *
  have b := h.len
  have b1 := h.low
  have b2 := h.high
  have pb : ∀ x, x < t.Rows.length → 0 ≤ ml (t.Rows.getD x default) R.X * ml (hgt (t.Low + x)) R.Y ∧ ml (t.Rows.getD x default) R.X * ml (hgt (t.Low + x)) R.Y ≤ 1440000 := fun x hx => by
    have m1 := ml_b R.X (h.rng _ (getD_mem' hx))
    have m2 := ml_b R.Y (hgt_rng (r := t.Low + x) (by omega) (by omega))
    have := mul_bound (a := ml (t.Rows.getD x default) R.X) (b := ml (hgt (t.Low + x)) R.Y) (m := 1200) (n := 1200) (by omega) (by omega) (by omega) (by omega) (by omega) (by omega)
    exact ⟨Int.mul_nonneg m1.1 m2.1, by omega⟩
  have k1 := loop_fold t.Rows (fun n (a : Int) x => section_Within_L1 R t n a x) (fun x => (x : Int)) (fun x a s => s + ml a R.X * ml (hgt (t.Low + x)) R.Y) (fun s => s) (fun x s => 0 ≤ s ∧ s ≤ 1440000 * (x : Int)) (by omega)
    (fun n x a hx hi => by
      have p := pb x hx
      refine ⟨?_, by omega⟩
      rw [section_Within_L1, decide_eq_true (show (x : Int) < _ by omega), inb_t (by omega) (by omega), inc_eq (by omega), w64_id (n := t.Low + x) (by omega) (by omega), (hgt_eq (r := t.Low + x) (by omega) (by omega)).1]
      simp only [cond_true, Int.toNat_natCast, Option.bind_some, span_Meet_eq]
      rw [ml_eq R.X (h.rng _ (getD_mem' hx)), ml_eq R.Y (hgt_rng (r := t.Low + x) (by omega) (by omega))]
      simp only [Option.bind_some]
      rw [w64_id (n := _ * _) (by omega) (by omega), w64_id (by omega) (by omega)])
    (fun n a _ => by rw [section_Within_L1]; simp) (i := 0) rfl 0 (by omega)
  have k2 := loop_fold t.Rows (fun n (a : Int) x => ref10_Within_L1 R t n a x) (fun x => (x : Int)) (fun x a s => s + ml a R.X * ml (hgt (t.Low + x)) R.Y) (fun s => s) (fun x s => 0 ≤ s ∧ s ≤ 1440000 * (x : Int)) (by omega)
    (fun n x a hx hi => by
      have p := pb x hx
      refine ⟨?_, by omega⟩
      rw [ref10_Within_L1, decide_eq_true (show (x : Int) < _ by omega), inb_t (by omega) (by omega), inc_eq (by omega), w64_id (n := t.Low + x) (by omega) (by omega), (hgt_eq (r := t.Low + x) (by omega) (by omega)).2]
      simp only [cond_true, Int.toNat_natCast, Option.bind_some]
      rw [common_eq R.X (h.rng _ (getD_mem' hx)), common_eq R.Y (hgt_rng (r := t.Low + x) (by omega) (by omega))]
      simp only [Option.bind_some]
      rw [w64_id (n := _ * _) (by omega) (by omega), w64_id (by omega) (by omega)])
    (fun n a _ => by rw [ref10_Within_L1]; simp) (i := 0) rfl 0 (by omega)
  rw [foldi_sum (fun x a => ml a R.X * ml (hgt (t.Low + x)) R.Y)] at k1 k2
  have e := sum_rows h (fun r a => ml a R.X * ml (hgt r) R.Y) (fun r => by
    have : ml ⟨0, 0⟩ R.X = 0 := by have := ml_b (x := ⟨0, 0⟩) R.X rfl; have e : lenS ⟨0, 0⟩ = 0 := rfl; omega
    rw [this]; simp)
  simp only [Nat.zero_add, Int.zero_add] at k1 k2
  rw [e] at k1 k2
  rw [k1.1, k2.1]
  exact ⟨rfl, rfl⟩
/-! ### Bounds -/
def bndS (a : Span) (x : Span) : Span := bif empS a then x else ⟨imin x.A a.A, imax x.B a.B⟩
def boundsS (s : Section) : Rect := if s.Rows = [] then ⟨⟨0, 0⟩, ⟨0, 0⟩⟩ else ⟨s.Rows.foldl (fun x a => bndS a x) (s.Rows.getD 0 default), ⟨10 * s.Low, 10 * (s.Low + s.Rows.length)⟩⟩
theorem Bounds_eq (s : Section) : section_Bounds s = some (boundsS (val10 s)) ∧ ref10_Bounds s = some (boundsS (val10 s)) := by
  have h := val10_VS s
  unfold section_Bounds ref10_Bounds
  rw [(val10_eq s).1, (val10_eq s).2]
  simp only [Option.bind_some]
  generalize val10 s = t at *
  have b := h.len
  have b1 := h.low
  have b2 := h.high
  unfold boundsS
  by_cases h0 : t.Rows = []
  · rw [if_pos h0, h0]; exact ⟨rfl, rfl⟩
  have e0 : (((t.Rows.length : Nat) : Int) == 0) = false := by
    have : 0 < t.Rows.length := List.length_pos_iff.2 h0
    rw [beq_eq_false_iff_ne]; omega
  have hb : 0 < t.Rows.length := List.length_pos_iff.2 h0
  have k1 := loop_fold t.Rows (fun n (a : Span) x => section_Bounds_L1 t n x a) (fun x => (x : Int)) (fun _ a s => bndS a s) (fun s => s) (fun _ _ => True) (by omega)
    (fun n x a hx hi => by
      refine ⟨?_, trivial⟩
      rw [section_Bounds_L1, decide_eq_true (show (x : Int) < _ by omega), inb_t (by omega) (by omega)]
      simp only [cond_true, Int.toNat_natCast, section_isEmpty_eq, Option.bind_some, section_Bounds_k2, inc_eq (show x < 4611686018427387904 by omega), bndS]
      cases empS (t.Rows.getD x default) <;> rfl)
    (fun n a _ => by rw [section_Bounds_L1]; simp) (i := 0) rfl (t.Rows.getD 0 default) trivial
  have k2 := loop_fold t.Rows (fun n (a : Span) x => ref10_Bounds_L1 t n x a) (fun x => (x : Int)) (fun _ a s => bndS a s) (fun s => s) (fun _ _ => True) (by omega)
    (fun n x a hx hi => by
      refine ⟨?_, trivial⟩
      rw [ref10_Bounds_L1, decide_eq_true (show (x : Int) < _ by omega), inb_t (by omega) (by omega)]
      simp only [cond_true, Int.toNat_natCast, ref10_empty_eq, Option.bind_some, ref10_Bounds_k2, inc_eq (show x < 4611686018427387904 by omega), bndS]
      cases empS (t.Rows.getD x default) <;> rfl)
    (fun n a _ => by rw [ref10_Bounds_L1]; simp) (i := 0) rfl (t.Rows.getD 0 default) trivial
  rw [foldi_foldl] at k1 k2
  rw [if_neg h0, e0, inb_t (by omega) (by omega)]
  simp only [cond_false, cond_true, Int.toNat_zero, k1.1, k2.1, Option.bind_some, section_heights]
  rw [w64_id (n := t.Low + _) (by omega) (by omega), w64_id (by omega) (by omega), w64_id (by omega) (by omega)]
  exact ⟨rfl, rfl⟩
theorem SectionAreas_true (s : Section) (R : Rect) {w w' : Prop} (_ : w) (_ : w') : law10_SectionAreas s R = some true := by
  unfold law10_SectionAreas
  rw [few_eq, (Area_eq s).1, (Area_eq s).2, (Within_eq s R).1, (Within_eq s R).2, (Bounds_eq s).1, (Bounds_eq s).2]
  simp only [Option.bind_some, awake_true, beq_self_eq_true, Bool.and_self, cond_true, law10_SectionAreas_k1]
  cases decide (s.Rows.length ≤ 200) <;> rfl
end Saw
end Go.SL
