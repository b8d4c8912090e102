/- Section's plain mathematics, part 5: Shift, Dropped, Meet, Equal. -/
import Derived.Test.YtjelipmghgcpeaaSMa1
set_option linter.unusedVariables false
set_option linter.unusedSimpArgs false
namespace Go.SL
namespace Saw

/-! ### Shift -/
def shS (dx : Int) (x : Span) : Span := bif empS x then x else ⟨x.A + dx, x.B + dx⟩
def shiftS (s : Section) (dx k : Int) : Section := if s.Rows = [] ∨ dx < -1200 ∨ 1200 < dx ∨ k < -120 ∨ 120 < k then nilS else val10 ⟨s.Low + k, s.Rows.map (shS dx)⟩
theorem shift_loop {s : Section} (h : VS s) {dx : Int} (h1 : -1200 ≤ dx) (h2 : dx ≤ 1200) : section_Shift_L2 dx s FUEL 0 s.Rows = some (s.Rows.map (shS dx)) ∧ ref10_Shift_L2 dx s FUEL 0 [] = some (s.Rows.map (shS dx)) := by
  have b := h.len
  constructor
  · have k := loop_fold s.Rows (fun n (l : List Span) x => section_Shift_L2 dx s n x l) (fun x => (x : Int)) (fun x a l => bif empS a then l else l.set x (shS dx a)) (fun l => l)
      (fun x l => l.length = s.Rows.length ∧ ∀ j, j < s.Rows.length → l.getD j default = if j < x then shS dx (s.Rows.getD j default) else s.Rows.getD j default) (by omega)
      (fun n x l hx hi => by
        obtain ⟨i1, i2⟩ := hi
        have hr := rngS_iff.1 (h.rng _ (getD_mem' hx))
        constructor
        · rw [section_Shift_L2, decide_eq_true (show (x : Int) < _ by omega), inb_t (by omega) (by omega)]
          simp only [cond_true, Int.toNat_natCast, section_isEmpty_eq, Option.bind_some, section_Shift_k3, inc_eq (show x < 4611686018427387904 by omega)]
          rw [inb_t (by omega) (by omega), w64_id (by omega) (by omega), w64_id (by omega) (by omega)]
          unfold shS
          cases empS (s.Rows.getD x default) <;> rfl
        · cases he : empS (s.Rows.getD x default) with
          | true =>
            refine ⟨i1, fun j hj => ?_⟩
            simp only [cond_true]
            rw [i2 j hj]
            by_cases c1 : j < x
            · rw [if_pos c1, if_pos (by omega)]
            · rw [if_neg c1]
              by_cases c2 : j = x
              · subst c2; rw [if_pos (by omega)]; unfold shS; rw [he]; rfl
              · rw [if_neg (by omega)]
          | false =>
            simp only [cond_false]
            refine ⟨by simpa using i1, fun j hj => ?_⟩
            by_cases c2 : j = x
            · subst c2; rw [if_pos (by omega), getD_set_eq _ (by omega)]
            · rw [getD_set_ne _ (fun e => c2 e.symm), i2 j hj]
              by_cases c1 : j < x
              · rw [if_pos c1, if_pos (by omega)]
              · rw [if_neg c1, if_neg (by omega)])
      (fun n l _ => by rw [section_Shift_L2]; simp) (i := 0) rfl s.Rows ⟨rfl, fun j hj => by rw [if_neg (by omega)]⟩
    obtain ⟨k1, k2, k3⟩ := k
    rw [k1]
    congr 1
    refine ext_getD (by simpa using k2) (fun j hj => ?_)
    rw [k2] at hj
    rw [k3 j hj, if_pos hj, getD_map _ _ hj]
  · have k := loop_fold s.Rows (fun n (l : List Span) x => ref10_Shift_L2 dx s n x l) (fun x => (x : Int)) (fun _ a l => l ++ [shS dx a]) (fun l => l) (fun x l => l.length = x) (by omega)
      (fun n x l hx hi => by
        have hr := rngS_iff.1 (h.rng _ (getD_mem' hx))
        refine ⟨?_, by simp [hi]⟩
        rw [ref10_Shift_L2, decide_eq_true (show (x : Int) < _ by omega), inb_t (by omega) (by omega)]
        simp only [cond_true, Int.toNat_natCast, ref10_empty_eq, Option.bind_some, ref10_Shift_k3, inc_eq (show x < 4611686018427387904 by omega)]
        rw [room_t (by omega), w64_id (by omega) (by omega), w64_id (by omega) (by omega)]
        unfold shS
        cases empS (s.Rows.getD x default) <;> rfl)
      (fun n l _ => by rw [ref10_Shift_L2]; simp) (i := 0) rfl [] rfl
    rw [foldi_map (fun _ a => shS dx a), mapi_map, List.nil_append] at k
    exact k.1
theorem Shift_eq (s : Section) {dx k : Int} (_ : i64ok dx) (_ : i64ok k) : section_Shift s dx k = some (shiftS (val10 s) dx k) ∧ ref10_Shift s dx k = some (shiftS (val10 s) dx k) := by
  have h := val10_VS s
  have b1 := h.low
  have b2 := h.high
  have b3 := h.len
  unfold section_Shift ref10_Shift
  rw [(val10_eq s).1, (val10_eq s).2]
  simp only [Option.bind_some]
  generalize val10 s = t at *
  by_cases h0 : t.Rows = []
  · have e : shiftS t dx k = nilS := by unfold shiftS; rw [if_pos (.inl h0)]
    rw [e, h0]
    refine ⟨rfl, ?_⟩
    simp only [List.length_nil]
    cases decide (dx < -1200) <;> cases decide (dx > 1200) <;> cases decide (k < -120) <;> cases decide (k > 120) <;> rfl
  have e0 : (((t.Rows.length : Nat) : Int) == 0) = false := by
    have : 0 < t.Rows.length := List.length_pos_iff.2 h0
    rw [beq_eq_false_iff_ne]; omega
  have hb : 0 < t.Rows.length := List.length_pos_iff.2 h0
  rw [e0]
  simp only [cond_false]
  have dmax : ∀ a b : Int, imax a b > 1200 ↔ a > 1200 ∨ b > 1200 := fun a b => by have := imax_or a b; omega
  have dmin : ∀ a b : Int, imin a b < -1200 ↔ a < -1200 ∨ b < -1200 := fun a b => by have := imin_or a b; omega
  by_cases hd : dx < -1200 ∨ 1200 < dx
  · have e : shiftS t dx k = nilS := by unfold shiftS; rw [if_pos (by omega)]
    rw [e]
    constructor
    · by_cases m1 : imax dx k > 1200
      · rw [decide_eq_true m1]; rfl
      · rw [decide_eq_false m1, decide_eq_true (show imin dx k < -1200 by rw [dmin]; rw [dmax] at m1; omega)]; rfl
    · by_cases m1 : dx < -1200
      · rw [decide_eq_true m1]; rfl
      · rw [decide_eq_false m1, decide_eq_true (show dx > 1200 by omega)]; rfl
  · by_cases hk : k < -120 ∨ 120 < k
    · have e : shiftS t dx k = nilS := by unfold shiftS; rw [if_pos (by omega)]
      rw [e]
      constructor
      · by_cases m1 : imax dx k > 1200
        · rw [decide_eq_true m1]; rfl
        · rw [decide_eq_false m1]
          by_cases m2 : imin dx k < -1200
          · rw [decide_eq_true m2]; rfl
          · rw [decide_eq_false m2]
            rw [dmax] at m1
            rw [dmin] at m2
            have nv : val10 ⟨t.Low + k, t.Rows.map (shS dx)⟩ = nilS := by
              unfold val10
              rw [if_neg]
              rw [chk10_zero]
              intro hv
              have c1 := hv.low
              have c2 := hv.high
              simp only [List.length_map] at c1 c2
              omega
            unfold section_Shift_k1 slices_Clone_SSpan
            rw [room_t (by omega)]
            simp only [cond_false, cond_true, Option.bind_some, (shift_loop h (dx := dx) (by omega) (by omega)).1, w64_id (n := t.Low + k) (by omega) (by omega), (val10_eq _).1, nv]
      · by_cases m1 : k < -120
        · rw [decide_eq_true m1, decide_eq_false (show ¬ dx < -1200 by omega), decide_eq_false (show ¬ dx > 1200 by omega)]; rfl
        · rw [decide_eq_false m1, decide_eq_true (show k > 120 by omega), decide_eq_false (show ¬ dx < -1200 by omega), decide_eq_false (show ¬ dx > 1200 by omega)]; rfl
    · have e : shiftS t dx k = val10 ⟨t.Low + k, t.Rows.map (shS dx)⟩ := by unfold shiftS; rw [if_neg (by rw [not_or]; exact ⟨h0, by omega⟩)]
      rw [e]
      constructor
      · rw [decide_eq_false (show ¬ imax dx k > 1200 by rw [dmax]; omega), decide_eq_false (show ¬ imin dx k < -1200 by rw [dmin]; omega)]
        unfold section_Shift_k1 slices_Clone_SSpan
        rw [room_t (by omega)]
        simp only [cond_false, cond_true, Option.bind_some, (shift_loop h (dx := dx) (by omega) (by omega)).1, w64_id (n := t.Low + k) (by omega) (by omega), (val10_eq _).1]
      · rw [decide_eq_false (show ¬ dx < -1200 by omega), decide_eq_false (show ¬ dx > 1200 by omega), decide_eq_false (show ¬ k < -120 by omega), decide_eq_false (show ¬ k > 120 by omega)]
        unfold ref10_Shift_k1
        simp only [cond_false, cond_true, Option.bind_some, (shift_loop h (dx := dx) (by omega) (by omega)).2, w64_id (n := t.Low + k) (by omega) (by omega), (val10_eq _).2]
theorem VS_shift (s : Section) (dx k : Int) : VS (shiftS s dx k) := by
  unfold shiftS
  split
  · exact VS_nil
  · exact val10_VS _
theorem SectionMoves_true (s : Section) (dx k : Int) {w : Prop} (_ : w) (h1 : i64ok dx) (h2 : i64ok k) : law10_SectionMoves s dx k = some true := by
  unfold law10_SectionMoves
  rw [few_eq]
  simp only [Option.bind_some]
  cases decide (s.Rows.length ≤ 200) with
  | false => simp [awake_true]
  | true =>
    have l1 := (VS_shift (val10 s) dx k).len
    have l2 := (VS_mir (val10_VS s)).len
    have l3 := (VS_flip (val10_VS s)).len
    simp only [Bool.not_true, cond_false, (Shift_eq s h1 h2).1, (Shift_eq s h1 h2).2, (Mirror_eq s).1, (Mirror_eq s).2, (Flip_eq s).1, (Flip_eq s).2, Option.bind_some, Section.eta, same_self _ (Nat.le_trans l1 (by decide)), same_self _ (Nat.le_trans l2 (by decide)), same_self _ (Nat.le_trans l3 (by decide)), cond_true, awake_true, law10_SectionMoves_k1]
end Saw
end Go.SL
