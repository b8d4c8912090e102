/- Section's plain mathematics, part 8: SectionAdds, SectionTurns, SectionCommon. -/
import Derived.Test.YtjelipmghgcpeaaSMa2
set_option linter.unusedVariables false
set_option linter.unusedSimpArgs false
namespace Go.SL
namespace Saw

theorem ml_def (x y : Span) : ml x y = if imin x.B y.B ≤ imax x.A y.A then 0 else imin x.B y.B - imax x.A y.A := by
  unfold ml lenS empS mxS
  simp only
  by_cases c : imin x.B y.B ≤ imax x.A y.A
  · rw [decide_eq_true c, if_pos c]; rfl
  · rw [decide_eq_false c, if_neg c]; rfl
theorem ml_nn (x y : Span) : 0 ≤ ml x y := len_nn _
theorem len_def (x : Span) : lenS x = if x.B ≤ x.A then 0 else x.B - x.A := by
  unfold lenS empS
  by_cases c : x.B ≤ x.A
  · rw [decide_eq_true c, if_pos c]; rfl
  · rw [decide_eq_false c, if_neg c]; rfl
theorem ml_add (x : Span) {A m B : Int} (h1 : A ≤ m) (h2 : m ≤ B) : ml x ⟨A, m⟩ + ml x ⟨m, B⟩ = ml x ⟨A, B⟩ := by
  have a1 := imin_or x.B m
  have a2 := imin_or x.B B
  have a3 := imax_or x.A A
  have a4 := imax_or x.A m
  simp only [ml_def]
  split <;> split <;> split <;> omega
theorem ml_le (x y : Span) : ml x y ≤ lenS x := by
  have a2 := imin_or x.B y.B
  have a3 := imax_or x.A y.A
  rw [ml_def, len_def]
  split <;> split <;> omega
theorem ml_whole {x y : Span} (h1 : y.A ≤ x.A) (h2 : x.B ≤ y.B) : ml x y = lenS x := by
  have a2 := imin_or x.B y.B
  have a3 := imax_or x.A y.A
  rw [ml_def, len_def]
  split <;> split <;> omega
theorem ml_emp {x : Span} (y : Span) (h : empS x = true) : ml x y = 0 := by
  have := ml_le x y
  have := ml_nn x y
  have e : lenS x = 0 := by unfold lenS; rw [h]; rfl
  omega
theorem ml_nrm (x y : Span) : ml (nrm x) y = ml x y := by
  cases h : empS x with
  | true => rw [nrm_emp h, ml_emp y h, ml_emp y rfl]
  | false => rw [nrm_ne h]
theorem sumN_const (n : Nat) (c : Int) : sumN n (fun _ => c) = n * c := by
  induction n with
  | zero => simp [sumN]
  | succ n ih => rw [sumN, ih, Int.natCast_add, Int.add_mul]; simp
theorem area_sum (s : Section) : areaS s = sumR (fun r => 10 * lenS (row s r)) := (sumN_mul 120 10 _).symm
theorem sumR_le {f g : Int → Int} (h : ∀ r, -60 ≤ r → r < 60 → f r ≤ g r) : sumR f ≤ sumR g := sumN_le (fun i hi => h _ (by omega) (by omega))
theorem sumR_add (f g : Int → Int) : sumR (fun r => f r + g r) = sumR f + sumR g := sumN_add 120 _ _
theorem sumR_zero : sumR (fun _ => 0) = 0 := sumN_zero (fun _ _ => rfl)
theorem within_nn (s : Section) (x y : Span) : 0 ≤ withinS s x y := by
  have := sumR_le (f := fun _ => 0) (g := fun r => ml (row s r) x * ml (hgt r) y) (fun r _ _ => Int.mul_nonneg (ml_nn _ _) (ml_nn _ _))
  rw [sumR_zero] at this
  exact this
theorem within_le (s : Section) (x y : Span) : withinS s x y ≤ areaS s := by
  rw [area_sum]
  refine sumR_le (fun r _ _ => ?_)
  have h1 := ml_le (row s r) x
  have h2 := ml_le (hgt r) y
  rw [hgt_len] at h2
  have a := Int.mul_le_mul_of_nonneg_left h2 (ml_nn (row s r) x)
  have b := Int.mul_le_mul_of_nonneg_right h1 (show (0 : Int) ≤ 10 by decide)
  rw [Int.mul_comm 10]
  exact Int.le_trans a b
theorem area_b {s : Section} (h : VS s) : 0 ≤ areaS s ∧ areaS s ≤ 1440000 := by
  constructor
  · exact Int.le_trans (within_nn s ⟨0, 0⟩ ⟨0, 0⟩) (within_le s _ _)
  · rw [area_sum]
    refine Int.le_trans (sumR_le (g := fun _ => 12000) (fun r _ _ => ?_)) (by unfold sumR; rw [sumN_const]; omega)
    have hr := rngS_iff.1 (h.row_rng r)
    rw [len_def]
    split <;> omega
theorem within_four (s : Section) {A m B C n D : Int} (h1 : A ≤ m) (h2 : m ≤ B) (h3 : C ≤ n) (h4 : n ≤ D) :
    withinS s ⟨A, m⟩ ⟨C, n⟩ + withinS s ⟨m, B⟩ ⟨C, n⟩ + withinS s ⟨A, m⟩ ⟨n, D⟩ + withinS s ⟨m, B⟩ ⟨n, D⟩ = withinS s ⟨A, B⟩ ⟨C, D⟩ := by
  unfold withinS
  rw [← sumR_add, ← sumR_add, ← sumR_add]
  refine sumR_congr (fun r _ _ => ?_)
  rw [← ml_add (row s r) h1 h2, ← ml_add (hgt r) h3 h4, Int.add_mul, Int.mul_add, Int.mul_add]
  omega
theorem bnd_fold : ∀ (l : List Span) (x : Span), (l.foldl (fun x a => bndS a x) x).A ≤ x.A ∧ x.B ≤ (l.foldl (fun x a => bndS a x) x).B ∧ ∀ a ∈ l, empS a = false → (l.foldl (fun x a => bndS a x) x).A ≤ a.A ∧ a.B ≤ (l.foldl (fun x a => bndS a x) x).B
  | [], x => ⟨Int.le_refl _, Int.le_refl _, fun a h => by cases h⟩
  | a :: l, x => by
    obtain ⟨h1, h2, h3⟩ := bnd_fold l (bndS a x)
    simp only [List.foldl_cons]
    cases he : empS a with
    | true =>
      have e : bndS a x = x := by unfold bndS; rw [he]; rfl
      rw [e] at h1 h2 h3 ⊢
      refine ⟨h1, h2, fun b hb hbe => ?_⟩
      rcases List.mem_cons.1 hb with rfl | hb
      · rw [he] at hbe; cases hbe
      · exact h3 b hb hbe
    | false =>
      have e : bndS a x = ⟨imin x.A a.A, imax x.B a.B⟩ := by unfold bndS; rw [he]; rfl
      rw [e] at h1 h2 h3 ⊢
      simp only at h1 h2
      have a1 := imin_or x.A a.A
      have a2 := imax_or x.B a.B
      refine ⟨by omega, by omega, fun b hb hbe => ?_⟩
      rcases List.mem_cons.1 hb with rfl | hb
      · omega
      · exact h3 b hb hbe
theorem within_bounds {s : Section} (h : VS s) : withinS s (boundsS s).X (boundsS s).Y = areaS s := by
  rw [area_sum]
  refine sumR_congr (fun r _ _ => ?_)
  cases he : empS (row s r) with
  | true =>
    rw [ml_emp _ he]
    have e : lenS (row s r) = 0 := by unfold lenS; rw [he]; rfl
    rw [e]; simp
  | false =>
    have hr := row_ne he
    have hne : s.Rows ≠ [] := fun e => by rw [e] at hr; simp at hr; omega
    have hm : row s r ∈ s.Rows := by
      unfold row
      rw [if_neg (by omega)]
      exact getD_mem' (by omega)
    have hb := (bnd_fold s.Rows (s.Rows.getD 0 default)).2.2 _ hm he
    unfold boundsS
    rw [if_neg hne]
    simp only
    rw [ml_whole hb.1 hb.2, ml_whole (x := hgt r) (by unfold hgt; simp only; omega) (by unfold hgt; simp only; omega), hgt_len, Int.mul_comm]
theorem SectionAdds_true (s : Section) (R : Rect) (p : Point) {w w' w'' : Prop} (_ : w) (_ : w') (_ : w'') : law10_SectionAdds s R p = some true := by
  have h := val10_VS s
  have ab := area_b h
  have wn : ∀ x y, 0 ≤ withinS (val10 s) x y ∧ withinS (val10 s) x y ≤ areaS (val10 s) := fun x y => ⟨within_nn _ x y, within_le _ x y⟩
  have k2t : ∀ v, law10_SectionAdds_k2 s R p v true = some true := fun v => by unfold law10_SectionAdds_k2; simp [awake_true]
  unfold law10_SectionAdds
  rw [few_eq]
  simp only [Option.bind_some]
  cases decide (s.Rows.length ≤ 200) with
  | false => simp [awake_true]
  | true =>
    have w0 := wn R.X R.Y
    simp only [Bool.not_true, cond_false, (Within_eq s _).1, (Area_eq s).1, (Bounds_eq s).1, Option.bind_some, within_bounds h]
    rw [decide_eq_false (show ¬ withinS (val10 s) R.X R.Y < 0 by omega), decide_eq_false (show ¬ withinS (val10 s) R.X R.Y > areaS (val10 s) by omega), show (areaS (val10 s) != areaS (val10 s)) = false by simp]
    simp only [cond_false, law10_SectionAdds_k1]
    by_cases c1 : p.X < R.X.A
    · rw [decide_eq_true c1]; simp only [cond_true, cond_false, k2t]
    rw [decide_eq_false c1]
    by_cases c2 : p.X > R.X.B
    · rw [decide_eq_true c2]; simp only [cond_true, cond_false, k2t]
    rw [decide_eq_false c2]
    by_cases c3 : p.Y < R.Y.A
    · rw [decide_eq_true c3]; simp only [cond_true, cond_false, k2t]
    rw [decide_eq_false c3]
    by_cases c4 : p.Y > R.Y.B
    · rw [decide_eq_true c4]; simp only [cond_true, cond_false, k2t]
    rw [decide_eq_false c4]
    unfold law10_SectionAdds_k2
    have f := within_four (val10 s) (A := R.X.A) (m := p.X) (B := R.X.B) (C := R.Y.A) (n := p.Y) (D := R.Y.B) (by omega) (by omega) (by omega) (by omega)
    have f1 := wn ⟨R.X.A, p.X⟩ ⟨R.Y.A, p.Y⟩
    have f2 := wn ⟨p.X, R.X.B⟩ ⟨R.Y.A, p.Y⟩
    have f3 := wn ⟨R.X.A, p.X⟩ ⟨p.Y, R.Y.B⟩
    have f4 := wn ⟨p.X, R.X.B⟩ ⟨p.Y, R.Y.B⟩
    simp only [cond_false, (Within_eq s _).1, Option.bind_some]
    rw [w64_id (n := withinS (val10 s) ⟨R.X.A, p.X⟩ ⟨R.Y.A, p.Y⟩ + _) (by omega) (by omega), w64_id (n := _ + withinS (val10 s) ⟨R.X.A, p.X⟩ ⟨p.Y, R.Y.B⟩) (by omega) (by omega), w64_id (by omega) (by omega), f]
    simp [awake_true, law10_SectionAdds_k3]
/-! ### SectionTurns -/
theorem len_neg (x : Span) : lenS (negS x) = lenS x := by
  rw [len_def, len_def]
  unfold negS
  simp only
  split <;> split <;> omega
theorem mir_mir {s : Section} (h : VS s) : mirS (mirS s) = s := sec_ext (VS_mir (VS_mir h)).toTrim h.toTrim (fun r => by rw [row_mir (VS_mir h), row_mir h, neg_neg])
theorem flip_flip {s : Section} (h : VS s) : flipS (flipS s) = s := sec_ext (VS_flip (VS_flip h)).toTrim h.toTrim (fun r => by rw [row_flip (VS_flip h), row_flip h]; congr 1; omega)
theorem flip_mir {s : Section} (h : VS s) : flipS (mirS s) = mirS (flipS s) := sec_ext (VS_flip (VS_mir h)).toTrim (VS_mir (VS_flip h)).toTrim (fun r => by rw [row_flip (VS_mir h), row_mir h, row_mir (VS_flip h), row_flip h])
theorem area_mir {s : Section} (h : VS s) : areaS (mirS s) = areaS s := by
  have e : sumR (fun r => lenS (row (mirS s) r)) = sumR (fun r => lenS (row s r)) := sumR_congr (fun r _ _ => by rw [row_mir h, len_neg])
  unfold areaS
  rw [e]
theorem area_flip {s : Section} (h : VS s) : areaS (flipS s) = areaS s := by
  have e : sumR (fun r => lenS (row (flipS s) r)) = sumR (fun r => lenS (row s r)) := by
    unfold sumR
    rw [← sumN_rev 120 (fun j => lenS (row s ((j : Int) - 60)))]
    refine sumN_congr (fun i hi => ?_)
    simp only
    rw [row_flip h, show -((i : Int) - 60) - 1 = ((120 - 1 - i : Nat) : Int) - 60 by omega]
  unfold areaS
  rw [e]
theorem sh_emp (dx : Int) (x : Span) : empS (shS dx x) = empS x := by
  unfold shS
  cases h : empS x with
  | true => exact h
  | false =>
    unfold empS at h ⊢
    simp only [cond_false]
    have := of_decide_eq_false h
    exact decide_eq_false (by omega)
theorem sh_back (dx : Int) (x : Span) : shS (-dx) (shS dx x) = x := by
  have e := sh_emp dx x
  cases h : empS x with
  | true => have : shS dx x = x := by unfold shS; rw [h]; rfl
            rw [this]; unfold shS; rw [h]; rfl
  | false =>
    have h1 : shS dx x = ⟨x.A + dx, x.B + dx⟩ := by unfold shS; rw [h]; rfl
    rw [h] at e
    unfold shS at e ⊢
    rw [h] at e ⊢
    simp only [cond_false] at e ⊢
    rw [e]
    simp only [cond_false]
    cases x
    simp only [Span.mk.injEq]
    omega
theorem sh_len (dx : Int) (x : Span) : lenS (shS dx x) = lenS x := by
  have e := sh_emp dx x
  cases h : empS x with
  | true => have : shS dx x = x := by unfold shS; rw [h]; rfl
            rw [this]
  | false =>
    have h1 : shS dx x = ⟨x.A + dx, x.B + dx⟩ := by unfold shS; rw [h]; rfl
    rw [h1, len_def, len_def]
    simp only
    split <;> split <;> omega
theorem shift_some {s : Section} (h : VS s) {dx k : Int} (hne : (shiftS s dx k).Rows ≠ []) : -1200 ≤ dx ∧ dx ≤ 1200 ∧ -120 ≤ k ∧ k ≤ 120 ∧ s.Rows ≠ [] ∧ VS ⟨s.Low + k, s.Rows.map (shS dx)⟩ ∧ shiftS s dx k = ⟨s.Low + k, s.Rows.map (shS dx)⟩ := by
  by_cases c : s.Rows = [] ∨ dx < -1200 ∨ 1200 < dx ∨ k < -120 ∨ 120 < k
  · have e : shiftS s dx k = nilS := by unfold shiftS; rw [if_pos c]
    rw [e] at hne
    exact absurd rfl hne
  · have e : shiftS s dx k = val10 ⟨s.Low + k, s.Rows.map (shS dx)⟩ := by unfold shiftS; rw [if_neg c]
    rw [e] at hne ⊢
    rw [not_or] at c
    by_cases hv : chk10 ⟨s.Low + k, s.Rows.map (shS dx)⟩ = 0
    · have hV := (chk10_zero _).1 hv
      exact ⟨by omega, by omega, by omega, by omega, c.1, hV, val10_of hV⟩
    · unfold val10 at hne
      rw [if_neg hv] at hne
      exact absurd rfl hne
theorem area_list {s : Section} (h : VS s) : areaS s = 10 * sumN s.Rows.length (fun i => lenS (s.Rows.getD i default)) := by
  unfold areaS
  have e := sum_rows h (fun _ a => lenS a) (fun _ => rfl)
  rw [e]
theorem area_shift {s : Section} (h : VS s) {dx k : Int} (hne : (shiftS s dx k).Rows ≠ []) : areaS (shiftS s dx k) = areaS s := by
  obtain ⟨_, _, _, _, _, hV, e⟩ := shift_some h hne
  rw [e, area_list hV, area_list h, List.length_map]
  congr 1
  exact sumN_congr (fun i hi => by rw [getD_map _ _ hi, sh_len])
theorem shift_back {s : Section} (h : VS s) {dx k : Int} (hne : (shiftS s dx k).Rows ≠ []) : shiftS (shiftS s dx k) (-dx) (-k) = s := by
  obtain ⟨c1, c2, c3, c4, hn, hV, e⟩ := shift_some h hne
  rw [e] at hne ⊢
  have e2 : Section.mk (s.Low + k + -k) ((s.Rows.map (shS dx)).map (shS (-dx))) = s := by
    have e3 : (s.Rows.map (shS dx)).map (shS (-dx)) = s.Rows := by
      rw [List.map_map]
      conv => rhs; rw [← List.map_id s.Rows]
      exact List.map_congr_left (fun x _ => sh_back dx x)
    rw [e3, show s.Low + k + -k = s.Low by omega]
  have e4 : shiftS ⟨s.Low + k, s.Rows.map (shS dx)⟩ (-dx) (-k) = val10 ⟨s.Low + k + -k, (s.Rows.map (shS dx)).map (shS (-dx))⟩ := by
    unfold shiftS
    rw [if_neg (by rw [not_or]; exact ⟨hne, by omega⟩)]
  rw [e4, e2, val10_of h]
theorem SectionTurns_true (s : Section) (dx k : Int) {w : Prop} (_ : w) (hd : i64ok dx) (hk : i64ok k) : law10_SectionTurns s dx k = some true := by
  have k1t : law10_SectionTurns_k1 s dx k true = some true := by unfold law10_SectionTurns_k1; simp [awake_true]
  unfold law10_SectionTurns
  rw [few_eq, (chk10_eq s).1]
  simp only [Option.bind_some]
  cases decide (s.Rows.length ≤ 200) with
  | false => exact k1t
  | true =>
    simp only [Bool.not_true, cond_false]
    by_cases hc : chk10 s = 0
    · rw [show (chk10 s != 0) = false by simpa using hc]
      have h := (chk10_zero s).1 hc
      simp only [cond_false]
      by_cases c1 : dx < -2000
      · rw [decide_eq_true c1]; exact k1t
      rw [decide_eq_false c1]
      by_cases c2 : dx > 2000
      · rw [decide_eq_true c2]; exact k1t
      rw [decide_eq_false c2]
      by_cases c3 : k < -200
      · rw [decide_eq_true c3]; exact k1t
      rw [decide_eq_false c3]
      by_cases c4 : k > 200
      · rw [decide_eq_true c4]; exact k1t
      rw [decide_eq_false c4]
      have hV := VS_shift s dx k
      have sl : ∀ {t : Section}, VS t → law10_same t t = some true := fun {t} ht => same_self t (Nat.le_trans ht.len (by decide))
      have vm := VS_mir h
      have vf := VS_flip h
      unfold law10_SectionTurns_k1
      simp only [cond_false, (Mirror_eq _).1, (Flip_eq _).1, (Shift_eq s hd hk).1, Option.bind_some, val10_of h, Section.eta, val10_of vm, val10_of vf, mir_mir h, flip_flip h, sl h, Bool.not_true, (Area_eq _).1, area_mir h, area_flip h, bne_self_eq_false, flip_mir h, sl (VS_mir vf)]
      unfold law10_SectionTurns_k2
      simp only [cond_false]
      by_cases hne : (shiftS s dx k).Rows = []
      · rw [hne]; simp [awake_true]
      · have e0 : ((((shiftS s dx k).Rows.length : Nat) : Int) == 0) = false := by
          have : 0 < (shiftS s dx k).Rows.length := List.length_pos_iff.2 hne
          rw [beq_eq_false_iff_ne]; omega
        rw [e0, w64_id (by omega) (by omega), w64_id (by omega) (by omega), show 0 - dx = -dx by omega, show 0 - k = -k by omega]
        simp only [cond_false, (Area_eq _).1, (Shift_eq (shiftS s dx k) (dx := -dx) (k := -k) (by unfold i64ok; omega) (by unfold i64ok; omega)).1, val10_of hV, val10_of h, Option.bind_some, area_shift h hne, beq_self_eq_true, cond_true, shift_back h hne, sl h, awake_true, law10_SectionTurns_k3]
    · rw [show (chk10 s != 0) = true by simpa using hc]; exact k1t
/-! ### SectionCommon -/
theorem mx_comm (x y : Span) : mxS x y = mxS y x := by
  have a1 := imax_or x.A y.A
  have a2 := imax_or y.A x.A
  have a3 := imin_or x.B y.B
  have a4 := imin_or y.B x.B
  unfold mxS
  simp only [Span.mk.injEq]
  omega
theorem mx_self (x : Span) : mxS x x = x := by
  obtain ⟨A, B⟩ := x
  have a1 := imax_or A A
  have a3 := imin_or B B
  unfold mxS
  simp only [Span.mk.injEq]
  omega
theorem meet_comm {a b : Section} (ha : VS a) (hb : VS b) : meetS b a = meetS a b := sec_ext (VS_meet hb ha).toTrim (VS_meet ha hb).toTrim (fun r => by rw [row_meet hb ha, row_meet ha hb, mx_comm])
theorem meet_self {a : Section} (ha : VS a) : meetS a a = a := sec_ext (VS_meet ha ha).toTrim ha.toTrim (fun r => by rw [row_meet ha ha, mx_self, ha.row_nrm])
theorem sumN_one {n : Nat} {f : Nat → Int} {k : Nat} (hk : k < n) (h : ∀ i, i < n → i ≠ k → f i = 0) : sumN n f = f k := by
  induction n with
  | zero => omega
  | succ n ih =>
    rw [sumN]
    by_cases e : k = n
    · subst e
      rw [sumN_zero (fun i hi => h i (by omega) (by omega))]; omega
    · rw [ih (by omega) (fun i hi hne => h i (by omega) hne), h n (by omega) (fun e' => e e'.symm)]; omega
theorem hgt_hgt (r y : Int) : ml (hgt r) (hgt y) = if r = y then 10 else 0 := by
  have a1 := imax_or (hgt r).A (hgt y).A
  have a2 := imin_or (hgt r).B (hgt y).B
  rw [ml_def]
  unfold hgt at *
  simp only at *
  split <;> split <;> omega
theorem within_unit {s : Section} (x y : Int) : withinS s ⟨x, x + 1⟩ (hgt y) = if -60 ≤ y ∧ y < 60 then ml (row s y) ⟨x, x + 1⟩ * 10 else 0 := by
  unfold withinS sumR
  by_cases hy : -60 ≤ y ∧ y < 60
  · rw [if_pos hy, sumN_one (k := (y + 60).toNat) (by omega) (fun i hi hne => by simp only; rw [hgt_hgt, if_neg (by omega)]; simp)]
    simp only
    rw [show ((y + 60).toNat : Int) - 60 = y by omega, hgt_hgt, if_pos rfl]
  · rw [if_neg hy]
    exact sumN_zero (fun i hi => by simp only; rw [hgt_hgt, if_neg (by omega)]; simp)
theorem ml_unit (a : Span) (x : Int) : ml a ⟨x, x + 1⟩ = if a.A ≤ x ∧ x < a.B then 1 else 0 := by
  have a1 := imax_or a.A x
  have a2 := imin_or a.B (x + 1)
  rw [ml_def]
  simp only at *
  split <;> split <;> omega
theorem SectionCommon_true (a b : Section) (p : Point) {w w' w'' : Prop} (_ : w) (_ : w') (_ : w'') : law10_SectionCommon a b p = some true := by
  have ha := val10_VS a
  have hb := val10_VS b
  have hm := VS_meet ha hb
  have sl : ∀ {t : Section}, VS t → law10_same t t = some true := fun {t} ht => same_self t (Nat.le_trans ht.len (by decide))
  have k1t : law10_SectionCommon_k1 a b p true = some true := by unfold law10_SectionCommon_k1; simp [awake_true]
  have main : -1000 ≤ p.X → p.X ≤ 1000 → -100 ≤ p.Y → p.Y ≤ 100 → law10_SectionCommon_k1 a b p false = some true := by
    intro p1 p2 p3 p4
    have k2 : law10_SectionCommon_k2 a b p (meetS (val10 a) (val10 b)) false = some true := by
      unfold law10_SectionCommon_k2
      rw [w64_id (n := p.X + 1) (by omega) (by omega), w64_id (n := p.Y + 1) (by omega) (by omega), w64_id (n := 10 * p.Y) (by omega) (by omega), w64_id (n := 10 * (p.Y + 1)) (by omega) (by omega)]
      have eh : Span.mk (10 * p.Y) (10 * (p.Y + 1)) = hgt p.Y := rfl
      simp only [cond_false, (Within_eq _ _).1, Section.eta, Option.bind_some, val10_of hm, eh, within_unit, row_meet ha hb, ml_nrm]
      have mm : ml (mxS (row (val10 a) p.Y) (row (val10 b) p.Y)) ⟨p.X, p.X + 1⟩ = 1 ↔ (ml (row (val10 a) p.Y) ⟨p.X, p.X + 1⟩ = 1 ∧ ml (row (val10 b) p.Y) ⟨p.X, p.X + 1⟩ = 1) := by
        rw [ml_unit, ml_unit, ml_unit]
        have a1 := imax_or (row (val10 a) p.Y).A (row (val10 b) p.Y).A
        have a2 := imin_or (row (val10 a) p.Y).B (row (val10 b) p.Y).B
        unfold mxS
        simp only
        split <;> split <;> split <;> omega
      have o1 := ml_unit (row (val10 a) p.Y) p.X
      have o2 := ml_unit (row (val10 b) p.Y) p.X
      have o3 := ml_unit (mxS (row (val10 a) p.Y) (row (val10 b) p.Y)) p.X
      have z : ∀ {c d : Bool}, c = d → (c == d) = true := fun h => by rw [h]; simp
      by_cases hy : -60 ≤ p.Y ∧ p.Y < 60
      · simp only [if_pos hy]
        have d1 : ml (row (val10 a) p.Y) ⟨p.X, p.X + 1⟩ = 0 ∨ ml (row (val10 a) p.Y) ⟨p.X, p.X + 1⟩ = 1 := by rw [o1]; split <;> simp
        have d2 : ml (row (val10 b) p.Y) ⟨p.X, p.X + 1⟩ = 0 ∨ ml (row (val10 b) p.Y) ⟨p.X, p.X + 1⟩ = 1 := by rw [o2]; split <;> simp
        have d3 : ml (mxS (row (val10 a) p.Y) (row (val10 b) p.Y)) ⟨p.X, p.X + 1⟩ = 0 ∨ ml (mxS (row (val10 a) p.Y) (row (val10 b) p.Y)) ⟨p.X, p.X + 1⟩ = 1 := by rw [o3]; split <;> simp
        generalize ml (row (val10 a) p.Y) ⟨p.X, p.X + 1⟩ = u at *
        generalize ml (row (val10 b) p.Y) ⟨p.X, p.X + 1⟩ = v at *
        generalize ml (mxS (row (val10 a) p.Y) (row (val10 b) p.Y)) ⟨p.X, p.X + 1⟩ = m at *
        rcases d1 with rfl | rfl <;> rcases d2 with rfl | rfl <;> rcases d3 with rfl | rfl <;> first | (simp [awake_true, law10_SectionCommon_k3]; done) | (exfalso; omega)
      · simp only [if_neg hy]
        simp [awake_true, law10_SectionCommon_k3]
    unfold law10_SectionCommon_k1
    simp only [cond_false, (Meet_eq _ _).1, Option.bind_some, Section.eta, (chk10_eq _).1, (chk10_zero _).2 hm, bne_self_eq_false, meet_comm ha hb, sl hm, Bool.not_true]
    by_cases hc : chk10 a = 0
    · have hA := (chk10_zero a).1 hc
      have e := val10_of hA
      rw [show (chk10 a == 0) = true by simpa using hc]
      simp only [cond_true, meet_self ha]
      rw [e] at k2 ⊢
      rw [sl hA]
      simp only [Option.bind_some, Bool.not_true, k2]
    · rw [show (chk10 a == 0) = false by simpa using hc]
      simp only [cond_false, k2]
  unfold law10_SectionCommon
  rw [few_eq, few_eq]
  simp only [Option.bind_some]
  cases decide (a.Rows.length ≤ 200) with
  | false => exact k1t
  | true => cases decide (b.Rows.length ≤ 200) with
    | false => exact k1t
    | true =>
      simp only [Bool.not_true, cond_false]
      by_cases c1 : p.X < -1000
      · rw [decide_eq_true c1]; exact k1t
      rw [decide_eq_false c1]
      by_cases c2 : p.X > 1000
      · rw [decide_eq_true c2]; exact k1t
      rw [decide_eq_false c2]
      by_cases c3 : p.Y < -100
      · rw [decide_eq_true c3]; exact k1t
      rw [decide_eq_false c3]
      by_cases c4 : p.Y > 100
      · rw [decide_eq_true c4]; exact k1t
      rw [decide_eq_false c4]
      exact main (by omega) (by omega) (by omega) (by omega)
end Saw
end Go.SL
