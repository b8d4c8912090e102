/- Section's plain mathematics, part 8: SectionAdds, SectionTurns, SectionCommon. -/
import Derived.Test.YtjelipmghgcpeaaSMa2
import Derived.Test.YtjelipmghgcpeaaSMod
set_option linter.unusedVariables false
set_option linter.unusedSimpArgs false
namespace Go.SL
namespace Saw

theorem ml_def (x y : Span) : ml x y = if imin x.B y.B ≤ imax x.A y.A then 0 else imin x.B y.B - imax x.A y.A := by
  unfold ml lenS empS mxS
  simp only
  by_cases c : imin x.B y.B ≤ imax x.A y.A
  · rw [decide_eq_true c, if_pos c]; rfl
  · rw [decide_eq_false c, if_neg c]; rfl
theorem ml_nn (x y : Span) : 0 ≤ ml x y := len_nn _
theorem len_def (x : Span) : lenS x = if x.B ≤ x.A then 0 else x.B - x.A := by
  unfold lenS empS
  by_cases c : x.B ≤ x.A
  · rw [decide_eq_true c, if_pos c]; rfl
  · rw [decide_eq_false c, if_neg c]; rfl
theorem ml_add (x : Span) {A m B : Int} (h1 : A ≤ m) (h2 : m ≤ B) : ml x ⟨A, m⟩ + ml x ⟨m, B⟩ = ml x ⟨A, B⟩ := by
  have a1 := imin_or x.B m
  have a2 := imin_or x.B B
  have a3 := imax_or x.A A
  have a4 := imax_or x.A m
  simp only [ml_def]
  split <;> split <;> split <;> omega
theorem ml_le (x y : Span) : ml x y ≤ lenS x := by
  have a2 := imin_or x.B y.B
  have a3 := imax_or x.A y.A
  rw [ml_def, len_def]
  split <;> split <;> omega
theorem ml_whole {x y : Span} (h1 : y.A ≤ x.A) (h2 : x.B ≤ y.B) : ml x y = lenS x := by
  have a2 := imin_or x.B y.B
  have a3 := imax_or x.A y.A
  rw [ml_def, len_def]
  split <;> split <;> omega
theorem ml_emp {x : Span} (y : Span) (h : empS x = true) : ml x y = 0 := by
  have := ml_le x y
  have := ml_nn x y
  have e : lenS x = 0 := by unfold lenS; rw [h]; rfl
  omega
theorem ml_nrm (x y : Span) : ml (nrm x) y = ml x y := by
  cases h : empS x with
  | true => rw [nrm_emp h, ml_emp y h, ml_emp y rfl]
  | false => rw [nrm_ne h]
theorem sumN_const (n : Nat) (c : Int) : sumN n (fun _ => c) = n * c := by
  induction n with
  | zero => simp [sumN]
  | succ n ih => rw [sumN, ih, Int.natCast_add, Int.add_mul]; simp
theorem area_sum (s : Section) : areaS s = sumR (fun r => 10 * lenS (row s r)) := (sumN_mul 120 10 _).symm
theorem sumR_le {f g : Int → Int} (h : ∀ r, -60 ≤ r → r < 60 → f r ≤ g r) : sumR f ≤ sumR g := sumN_le (fun i hi => h _ (by omega) (by omega))
theorem sumR_add (f g : Int → Int) : sumR (fun r => f r + g r) = sumR f + sumR g := sumN_add 120 _ _
theorem sumR_zero : sumR (fun _ => 0) = 0 := sumN_zero (fun _ _ => rfl)
theorem within_nn (s : Section) (x y : Span) : 0 ≤ withinS s x y := by
  have := sumR_le (f := fun _ => 0) (g := fun r => ml (row s r) x * ml (hgt r) y) (fun r _ _ => Int.mul_nonneg (ml_nn _ _) (ml_nn _ _))
  rw [sumR_zero] at this
  exact this
theorem within_le (s : Section) (x y : Span) : withinS s x y ≤ areaS s := by
  rw [area_sum]
  refine sumR_le (fun r _ _ => ?_)
  have h1 := ml_le (row s r) x
  have h2 := ml_le (hgt r) y
  rw [hgt_len] at h2
  have a := Int.mul_le_mul_of_nonneg_left h2 (ml_nn (row s r) x)
  have b := Int.mul_le_mul_of_nonneg_right h1 (show (0 : Int) ≤ 10 by decide)
  rw [Int.mul_comm 10]
  exact Int.le_trans a b
theorem area_b {s : Section} (h : VS s) : 0 ≤ areaS s ∧ areaS s ≤ 1440000 := by
  constructor
  · exact Int.le_trans (within_nn s ⟨0, 0⟩ ⟨0, 0⟩) (within_le s _ _)
  · rw [area_sum]
    refine Int.le_trans (sumR_le (g := fun _ => 12000) (fun r _ _ => ?_)) (by unfold sumR; rw [sumN_const]; omega)
    have hr := rngS_iff.1 (h.row_rng r)
    rw [len_def]
    split <;> omega
theorem within_four (s : Section) {A m B C n D : Int} (h1 : A ≤ m) (h2 : m ≤ B) (h3 : C ≤ n) (h4 : n ≤ D) :
    withinS s ⟨A, m⟩ ⟨C, n⟩ + withinS s ⟨m, B⟩ ⟨C, n⟩ + withinS s ⟨A, m⟩ ⟨n, D⟩ + withinS s ⟨m, B⟩ ⟨n, D⟩ = withinS s ⟨A, B⟩ ⟨C, D⟩ := by
  unfold withinS
  rw [← sumR_add, ← sumR_add, ← sumR_add]
  refine sumR_congr (fun r _ _ => ?_)
  rw [← ml_add (row s r) h1 h2, ← ml_add (hgt r) h3 h4, Int.add_mul, Int.mul_add, Int.mul_add]
  omega
theorem bnd_fold : ∀ (l : List Span) (x : Span), (l.foldl (fun x a => bndS a x) x).A ≤ x.A ∧ x.B ≤ (l.foldl (fun x a => bndS a x) x).B ∧ ∀ a ∈ l, empS a = false → (l.foldl (fun x a => bndS a x) x).A ≤ a.A ∧ a.B ≤ (l.foldl (fun x a => bndS a x) x).B
  | [], x => ⟨Int.le_refl _, Int.le_refl _, fun a h => by cases h⟩
  | a :: l, x => by
    obtain ⟨h1, h2, h3⟩ := bnd_fold l (bndS a x)
    simp only [List.foldl_cons]
    cases he : empS a with
    | true =>
      have e : bndS a x = x := by unfold bndS; rw [he]; rfl
      rw [e] at h1 h2 h3 ⊢
      refine ⟨h1, h2, fun b hb hbe => ?_⟩
      rcases List.mem_cons.1 hb with rfl | hb
      · rw [he] at hbe; cases hbe
      · exact h3 b hb hbe
    | false =>
      have e : bndS a x = ⟨imin x.A a.A, imax x.B a.B⟩ := by unfold bndS; rw [he]; rfl
      rw [e] at h1 h2 h3 ⊢
      simp only at h1 h2
      have a1 := imin_or x.A a.A
      have a2 := imax_or x.B a.B
      refine ⟨by omega, by omega, fun b hb hbe => ?_⟩
      rcases List.mem_cons.1 hb with rfl | hb
      · omega
      · exact h3 b hb hbe
theorem within_bounds {s : Section} (h : VS s) : withinS s (boundsS s).X (boundsS s).Y = areaS s := by
  rw [area_sum]
  refine sumR_congr (fun r _ _ => ?_)
  cases he : empS (row s r) with
  | true =>
    rw [ml_emp _ he]
    have e : lenS (row s r) = 0 := by unfold lenS; rw [he]; rfl
    rw [e]; simp
  | false =>
    have hr := row_ne he
    have hne : s.Rows ≠ [] := fun e => by rw [e] at hr; simp at hr; omega
    have hm : row s r ∈ s.Rows := by
      unfold row
      rw [if_neg (by omega)]
      exact getD_mem' (by omega)
    have hb := (bnd_fold s.Rows (s.Rows.getD 0 default)).2.2 _ hm he
    unfold boundsS
    rw [if_neg hne]
    simp only
    rw [ml_whole hb.1 hb.2, ml_whole (x := hgt r) (by unfold hgt; simp only; omega) (by unfold hgt; simp only; omega), hgt_len, Int.mul_comm]
theorem SectionAdds_true (s : Section) (R : Rect) (p : Point) {w w' w'' : Prop} (_ : w) (_ : w') (_ : w'') : law10_SectionAdds s R p = some true := by
  have h := val10_VS s
  have ab := area_b h
  have wn : ∀ x y, 0 ≤ withinS (val10 s) x y ∧ withinS (val10 s) x y ≤ areaS (val10 s) := fun x y => ⟨within_nn _ x y, within_le _ x y⟩
  have k2t : ∀ v, law10_SectionAdds_k2 s R p v true = some true := fun v => by unfold law10_SectionAdds_k2; simp [awake_true]
  unfold law10_SectionAdds
  rw [few_eq]
  simp only [Option.bind_some]
  cases decide (s.Rows.length ≤ 200) with
  | false => simp [awake_true]
  | true =>
    have w0 := wn R.X R.Y
    simp only [Bool.not_true, cond_false, (Within_eq s _).1, (Area_eq s).1, (Bounds_eq s).1, Option.bind_some, within_bounds h]
    rw [decide_eq_false (show ¬ withinS (val10 s) R.X R.Y < 0 by omega), decide_eq_false (show ¬ withinS (val10 s) R.X R.Y > areaS (val10 s) by omega), show (areaS (val10 s) != areaS (val10 s)) = false by simp]
    simp only [cond_false, law10_SectionAdds_k1]
    by_cases c1 : p.X < R.X.A
    · rw [decide_eq_true c1]; simp only [cond_true, cond_false, k2t]
    rw [decide_eq_false c1]
    by_cases c2 : p.X > R.X.B
    · rw [decide_eq_true c2]; simp only [cond_true, cond_false, k2t]
    rw [decide_eq_false c2]
    by_cases c3 : p.Y < R.Y.A
    · rw [decide_eq_true c3]; simp only [cond_true, cond_false, k2t]
    rw [decide_eq_false c3]
    by_cases c4 : p.Y > R.Y.B
    · rw [decide_eq_true c4]; simp only [cond_true, cond_false, k2t]
    rw [decide_eq_false c4]
    unfold law10_SectionAdds_k2
    have f := within_four (val10 s) (A := R.X.A) (m := p.X) (B := R.X.B) (C := R.Y.A) (n := p.Y) (D := R.Y.B) (by omega) (by omega) (by omega) (by omega)
    have f1 := wn ⟨R.X.A, p.X⟩ ⟨R.Y.A, p.Y⟩
    have f2 := wn ⟨p.X, R.X.B⟩ ⟨R.Y.A, p.Y⟩
    have f3 := wn ⟨R.X.A, p.X⟩ ⟨p.Y, R.Y.B⟩
    have f4 := wn ⟨p.X, R.X.B⟩ ⟨p.Y, R.Y.B⟩
    simp only [cond_false, (Within_eq s _).1, Option.bind_some]
    rw [w64_id (n := withinS (val10 s) ⟨R.X.A, p.X⟩ ⟨R.Y.A, p.Y⟩ + _) (by omega) (by omega), w64_id (n := _ + withinS (val10 s) ⟨R.X.A, p.X⟩ ⟨p.Y, R.Y.B⟩) (by omega) (by omega), w64_id (by omega) (by omega), f]
    simp [awake_true, law10_SectionAdds_k3]
/-! ### SectionTurns -/
theorem len_neg (x : Span) : lenS (negS x) = lenS x := by
  rw [len_def, len_def]
  unfold negS
  simp only
  split <;> split <;> omega
theorem mir_mir {s : Section} (h : VS s) : mirS (mirS s) = s := sec_ext (VS_mir (VS_mir h)).toTrim h.toTrim (fun r => by rw [row_mir (VS_mir h), row_mir h, neg_neg])
theorem flip_flip {s : Section} (h : VS s) : flipS (flipS s) = s := sec_ext (VS_flip (VS_flip h)).toTrim h.toTrim (fun r => by rw [row_flip (VS_flip h), row_flip h]; congr 1; omega)
theorem flip_mir {s : Section} (h : VS s) : flipS (mirS s) = mirS (flipS s) := sec_ext (VS_flip (VS_mir h)).toTrim (VS_mir (VS_flip h)).toTrim (fun r => by rw [row_flip (VS_mir h), row_mir h, row_mir (VS_flip h), row_flip h])
theorem area_mir {s : Section} (h : VS s) : areaS (mirS s) = areaS s := by
  have e : sumR (fun r => lenS (row (mirS s) r)) = sumR (fun r => lenS (row s r)) := sumR_congr (fun r _ _ => by rw [row_mir h, len_neg])
  unfold areaS
  rw [e]
theorem area_flip {s : Section} (h : VS s) : areaS (flipS s) = areaS s := by
  have e : sumR (fun r => lenS (row (flipS s) r)) = sumR (fun r => lenS (row s r)) := by
    unfold sumR
    rw [← sumN_rev 120 (fun j => lenS (row s ((j : Int) - 60)))]
    refine sumN_congr (fun i hi => ?_)
    simp only
    rw [row_flip h, show -((i : Int) - 60) - 1 = ((120 - 1 - i : Nat) : Int) - 60 by omega]
  unfold areaS
  rw [e]
theorem sh_emp (dx : Int) (x : Span) : empS (shS dx x) = empS x := by
  unfold shS
  cases h : empS x with
  | true => exact h
  | false =>
    unfold empS at h ⊢
    simp only [cond_false]
    have := of_decide_eq_false h
    exact decide_eq_false (by omega)
theorem sh_back (dx : Int) (x : Span) : shS (-dx) (shS dx x) = x := by
  have e := sh_emp dx x
  cases h : empS x with
  | true => have : shS dx x = x := by unfold shS; rw [h]; rfl
            rw [this]; unfold shS; rw [h]; rfl
  | false =>
    have h1 : shS dx x = ⟨x.A + dx, x.B + dx⟩ := by unfold shS; rw [h]; rfl
    rw [h] at e
    unfold shS at e ⊢
    rw [h] at e ⊢
    simp only [cond_false] at e ⊢
    rw [e]
    simp only [cond_false]
    cases x
    simp only [Span.mk.injEq]
    omega
theorem sh_len (dx : Int) (x : Span) : lenS (shS dx x) = lenS x := by
  have e := sh_emp dx x
  cases h : empS x with
  | true => have : shS dx x = x := by unfold shS; rw [h]; rfl
            rw [this]
  | false =>
    have h1 : shS dx x = ⟨x.A + dx, x.B + dx⟩ := by unfold shS; rw [h]; rfl
    rw [h1, len_def, len_def]
    simp only
    split <;> split <;> omega
theorem shift_some {s : Section} (h : VS s) {dx k : Int} (hne : (shiftS s dx k).Rows ≠ []) : -1200 ≤ dx ∧ dx ≤ 1200 ∧ -120 ≤ k ∧ k ≤ 120 ∧ s.Rows ≠ [] ∧ VS ⟨s.Low + k, s.Rows.map (shS dx)⟩ ∧ shiftS s dx k = ⟨s.Low + k, s.Rows.map (shS dx)⟩ := by
  by_cases c : s.Rows = [] ∨ dx < -1200 ∨ 1200 < dx ∨ k < -120 ∨ 120 < k
  · have e : shiftS s dx k = nilS := by unfold shiftS; rw [if_pos c]
    rw [e] at hne
    exact absurd rfl hne
  · have e : shiftS s dx k = val10 ⟨s.Low + k, s.Rows.map (shS dx)⟩ := by unfold shiftS; rw [if_neg c]
    rw [e] at hne ⊢
    rw [not_or] at c
    by_cases hv : chk10 ⟨s.Low + k, s.Rows.map (shS dx)⟩ = 0
    · have hV := (chk10_zero _).1 hv
      exact ⟨by omega, by omega, by omega, by omega, c.1, hV, val10_of hV⟩
    · unfold val10 at hne
      rw [if_neg hv] at hne
      exact absurd rfl hne
theorem area_list {s : Section} (h : VS s) : areaS s = 10 * sumN s.Rows.length (fun i => lenS (s.Rows.getD i default)) := by
  unfold areaS
  have e := sum_rows h (fun _ a => lenS a) (fun _ => rfl)
  rw [e]
theorem area_shift {s : Section} (h : VS s) {dx k : Int} (hne : (shiftS s dx k).Rows ≠ []) : areaS (shiftS s dx k) = areaS s := by
  obtain ⟨_, _, _, _, _, hV, e⟩ := shift_some h hne
  rw [e, area_list hV, area_list h, List.length_map]
  congr 1
  exact sumN_congr (fun i hi => by rw [getD_map _ _ hi, sh_len])
theorem shift_back {s : Section} (h : VS s) {dx k : Int} (hne : (shiftS s dx k).Rows ≠ []) : shiftS (shiftS s dx k) (-dx) (-k) = s := by
  obtain ⟨c1, c2, c3, c4, hn, hV, e⟩ := shift_some h hne
  rw [e] at hne ⊢
  have e2 : Section.mk (s.Low + k + -k) ((s.Rows.map (shS dx)).map (shS (-dx))) = s := by
    have e3 : (s.Rows.map (shS dx)).map (shS (-dx)) = s.Rows := by
      rw [List.map_map]
      conv => rhs; rw [← List.map_id s.Rows]
      exact List.map_congr_left (fun x _ => sh_back dx x)
    rw [e3, show s.Low + k + -k = s.Low by omega]
  have e4 : shiftS ⟨s.Low + k, s.Rows.map (shS dx)⟩ (-dx) (-k) = val10 ⟨s.Low + k + -k, (s.Rows.map (shS dx)).map (shS (-dx))⟩ := by
    unfold shiftS
    rw [if_neg (by rw [not_or]; exact ⟨hne, by omega⟩)]
  rw [e4, e2, val10_of h]
theorem SectionTurns_true (s : Section) (dx k : Int) {w : Prop} (_ : w) (hd : i64ok dx) (hk : i64ok k) : law10_SectionTurns s dx k = some true := by
  have k1t : law10_SectionTurns_k1 s dx k true = some true := by unfold law10_SectionTurns_k1; simp [awake_true]
  unfold law10_SectionTurns
  rw [few_eq, (chk10_eq s).1]
  simp only [Option.bind_some]
  cases decide (s.Rows.length ≤ 200) with
  | false => exact k1t
  | true =>
    simp only [Bool.not_true, cond_false]
    by_cases hc : chk10 s = 0
    · rw [show (chk10 s != 0) = false by simpa using hc]
      have h := (chk10_zero s).1 hc
      simp only [cond_false]
      by_cases c1 : dx < -2000
      · rw [decide_eq_true c1]; exact k1t
      rw [decide_eq_false c1]
      by_cases c2 : dx > 2000
      · rw [decide_eq_true c2]; exact k1t
      rw [decide_eq_false c2]
      by_cases c3 : k < -200
      · rw [decide_eq_true c3]; exact k1t
      rw [decide_eq_false c3]
      by_cases c4 : k > 200
      · rw [decide_eq_true c4]; exact k1t
      rw [decide_eq_false c4]
      have hV := VS_shift s dx k
      have sl : ∀ {t : Section}, VS t → law10_same t t = some true := fun {t} ht => same_self t (Nat.le_trans ht.len (by decide))
      have vm := VS_mir h
      have vf := VS_flip h
      unfold law10_SectionTurns_k1
      simp only [cond_false, (Mirror_eq _).1, (Flip_eq _).1, (Shift_eq s hd hk).1, Option.bind_some, val10_of h, Section.eta, val10_of vm, val10_of vf, mir_mir h, flip_flip h, sl h, Bool.not_true, (Area_eq _).1, area_mir h, area_flip h, bne_self_eq_false, flip_mir h, sl (VS_mir vf)]
      unfold law10_SectionTurns_k2
      simp only [cond_false]
      by_cases hne : (shiftS s dx k).Rows = []
      · rw [hne]; simp [awake_true]
      · have e0 : ((((shiftS s dx k).Rows.length : Nat) : Int) == 0) = false := by
          have : 0 < (shiftS s dx k).Rows.length := List.length_pos_iff.2 hne
          rw [beq_eq_false_iff_ne]; omega
        rw [e0, w64_id (by omega) (by omega), w64_id (by omega) (by omega), show 0 - dx = -dx by omega, show 0 - k = -k by omega]
        simp only [cond_false, (Area_eq _).1, (Shift_eq (shiftS s dx k) (dx := -dx) (k := -k) (by unfold i64ok; omega) (by unfold i64ok; omega)).1, val10_of hV, val10_of h, Option.bind_some, area_shift h hne, beq_self_eq_true, cond_true, shift_back h hne, sl h, awake_true, law10_SectionTurns_k3]
    · rw [show (chk10 s != 0) = true by simpa using hc]; exact k1t
/-! ### SectionCommon -/
theorem mx_comm (x y : Span) : mxS x y = mxS y x := by
  have a1 := imax_or x.A y.A
  have a2 := imax_or y.A x.A
  have a3 := imin_or x.B y.B
  have a4 := imin_or y.B x.B
  unfold mxS
  simp only [Span.mk.injEq]
  omega
theorem mx_self (x : Span) : mxS x x = x := by
  obtain ⟨A, B⟩ := x
  have a1 := imax_or A A
  have a3 := imin_or B B
  unfold mxS
  simp only [Span.mk.injEq]
  omega
theorem meet_comm {a b : Section} (ha : VS a) (hb : VS b) : meetS b a = meetS a b := sec_ext (VS_meet hb ha).toTrim (VS_meet ha hb).toTrim (fun r => by rw [row_meet hb ha, row_meet ha hb, mx_comm])
theorem meet_self {a : Section} (ha : VS a) : meetS a a = a := sec_ext (VS_meet ha ha).toTrim ha.toTrim (fun r => by rw [row_meet ha ha, mx_self, ha.row_nrm])
theorem sumN_one {n : Nat} {f : Nat → Int} {k : Nat} (hk : k < n) (h : ∀ i, i < n → i ≠ k → f i = 0) : sumN n f = f k := by
  induction n with
  | zero => omega
  | succ n ih =>
    rw [sumN]
    by_cases e : k = n
    · subst e
      rw [sumN_zero (fun i hi => h i (by omega) (by omega))]; omega
    · rw [ih (by omega) (fun i hi hne => h i (by omega) hne), h n (by omega) (fun e' => e e'.symm)]; omega
theorem hgt_hgt (r y : Int) : ml (hgt r) (hgt y) = if r = y then 10 else 0 := by
  have a1 := imax_or (hgt r).A (hgt y).A
  have a2 := imin_or (hgt r).B (hgt y).B
  rw [ml_def]
  unfold hgt at *
  simp only at *
  split <;> split <;> omega
theorem within_unit {s : Section} (x y : Int) : withinS s ⟨x, x + 1⟩ (hgt y) = if -60 ≤ y ∧ y < 60 then ml (row s y) ⟨x, x + 1⟩ * 10 else 0 := by
  unfold withinS sumR
  by_cases hy : -60 ≤ y ∧ y < 60
  · rw [if_pos hy, sumN_one (k := (y + 60).toNat) (by omega) (fun i hi hne => by simp only; rw [hgt_hgt, if_neg (by omega)]; simp)]
    simp only
    rw [show ((y + 60).toNat : Int) - 60 = y by omega, hgt_hgt, if_pos rfl]
  · rw [if_neg hy]
    exact sumN_zero (fun i hi => by simp only; rw [hgt_hgt, if_neg (by omega)]; simp)
theorem ml_unit (a : Span) (x : Int) : ml a ⟨x, x + 1⟩ = if a.A ≤ x ∧ x < a.B then 1 else 0 := by
  have a1 := imax_or a.A x
  have a2 := imin_or a.B (x + 1)
  rw [ml_def]
  simp only at *
  split <;> split <;> omega
theorem SectionCommon_true (a b : Section) (p : Point) {w w' w'' : Prop} (_ : w) (_ : w') (_ : w'') : law10_SectionCommon a b p = some true := by
  have ha := val10_VS a
  have hb := val10_VS b
  have hm := VS_meet ha hb
  have sl : ∀ {t : Section}, VS t → law10_same t t = some true := fun {t} ht => same_self t (Nat.le_trans ht.len (by decide))
  have k1t : law10_SectionCommon_k1 a b p true = some true := by unfold law10_SectionCommon_k1; simp [awake_true]
  have main : -1000 ≤ p.X → p.X ≤ 1000 → -100 ≤ p.Y → p.Y ≤ 100 → law10_SectionCommon_k1 a b p false = some true := by
    intro p1 p2 p3 p4
    have k2 : law10_SectionCommon_k2 a b p (meetS (val10 a) (val10 b)) false = some true := by
      unfold law10_SectionCommon_k2
      rw [w64_id (n := p.X + 1) (by omega) (by omega), w64_id (n := p.Y + 1) (by omega) (by omega), w64_id (n := 10 * p.Y) (by omega) (by omega), w64_id (n := 10 * (p.Y + 1)) (by omega) (by omega)]
      have eh : Span.mk (10 * p.Y) (10 * (p.Y + 1)) = hgt p.Y := rfl
      simp only [cond_false, (Within_eq _ _).1, Section.eta, Option.bind_some, val10_of hm, eh, within_unit, row_meet ha hb, ml_nrm]
      have mm : ml (mxS (row (val10 a) p.Y) (row (val10 b) p.Y)) ⟨p.X, p.X + 1⟩ = 1 ↔ (ml (row (val10 a) p.Y) ⟨p.X, p.X + 1⟩ = 1 ∧ ml (row (val10 b) p.Y) ⟨p.X, p.X + 1⟩ = 1) := by
        rw [ml_unit, ml_unit, ml_unit]
        have a1 := imax_or (row (val10 a) p.Y).A (row (val10 b) p.Y).A
        have a2 := imin_or (row (val10 a) p.Y).B (row (val10 b) p.Y).B
        unfold mxS
        simp only
        split <;> split <;> split <;> omega
      have o1 := ml_unit (row (val10 a) p.Y) p.X
      have o2 := ml_unit (row (val10 b) p.Y) p.X
      have o3 := ml_unit (mxS (row (val10 a) p.Y) (row (val10 b) p.Y)) p.X
      have z : ∀ {c d : Bool}, c = d → (c == d) = true := fun h => by rw [h]; simp
      by_cases hy : -60 ≤ p.Y ∧ p.Y < 60
      · simp only [if_pos hy]
        have d1 : ml (row (val10 a) p.Y) ⟨p.X, p.X + 1⟩ = 0 ∨ ml (row (val10 a) p.Y) ⟨p.X, p.X + 1⟩ = 1 := by rw [o1]; split <;> simp
        have d2 : ml (row (val10 b) p.Y) ⟨p.X, p.X + 1⟩ = 0 ∨ ml (row (val10 b) p.Y) ⟨p.X, p.X + 1⟩ = 1 := by rw [o2]; split <;> simp
        have d3 : ml (mxS (row (val10 a) p.Y) (row (val10 b) p.Y)) ⟨p.X, p.X + 1⟩ = 0 ∨ ml (mxS (row (val10 a) p.Y) (row (val10 b) p.Y)) ⟨p.X, p.X + 1⟩ = 1 := by rw [o3]; split <;> simp
        generalize ml (row (val10 a) p.Y) ⟨p.X, p.X + 1⟩ = u at *
        generalize ml (row (val10 b) p.Y) ⟨p.X, p.X + 1⟩ = v at *
        generalize ml (mxS (row (val10 a) p.Y) (row (val10 b) p.Y)) ⟨p.X, p.X + 1⟩ = m at *
        rcases d1 with rfl | rfl <;> rcases d2 with rfl | rfl <;> rcases d3 with rfl | rfl <;> first | (simp [awake_true, law10_SectionCommon_k3]; done) | (exfalso; omega)
      · simp only [if_neg hy]
        simp [awake_true, law10_SectionCommon_k3]
    unfold law10_SectionCommon_k1
    simp only [cond_false, (Meet_eq _ _).1, Option.bind_some, Section.eta, (chk10_eq _).1, (chk10_zero _).2 hm, bne_self_eq_false, meet_comm ha hb, sl hm, Bool.not_true]
    by_cases hc : chk10 a = 0
    · have hA := (chk10_zero a).1 hc
      have e := val10_of hA
      rw [show (chk10 a == 0) = true by simpa using hc]
      simp only [cond_true, meet_self ha]
      rw [e] at k2 ⊢
      rw [sl hA]
      simp only [Option.bind_some, Bool.not_true, k2]
    · rw [show (chk10 a == 0) = false by simpa using hc]
      simp only [cond_false, k2]
  unfold law10_SectionCommon
  rw [few_eq, few_eq]
  simp only [Option.bind_some]
  cases decide (a.Rows.length ≤ 200) with
  | false => exact k1t
  | true => cases decide (b.Rows.length ≤ 200) with
    | false => exact k1t
    | true =>
      simp only [Bool.not_true, cond_false]
      by_cases c1 : p.X < -1000
      · rw [decide_eq_true c1]; exact k1t
      rw [decide_eq_false c1]
      by_cases c2 : p.X > 1000
      · rw [decide_eq_true c2]; exact k1t
      rw [decide_eq_false c2]
      by_cases c3 : p.Y < -100
      · rw [decide_eq_true c3]; exact k1t
      rw [decide_eq_false c3]
      by_cases c4 : p.Y > 100
      · rw [decide_eq_true c4]; exact k1t
      rw [decide_eq_false c4]
      exact main (by omega) (by omega) (by omega) (by omega)
end Saw
end Go.SL

namespace Go.SL
namespace Saw

def tab_turns : List Point := [(Point.mk 1 0), (Point.mk 0 1), (Point.mk (-1) 0), (Point.mk 0 (-1))]

def law09_few (a1 : List Point) : Option Bool :=
  some (decide (((a1.length : Nat) : Int) ≤ 100))

def law09_pt (a1 : Int) (a2 : Int) : Option Point :=
  some (Point.mk a1 a2)

def poly_canTurn_k2 (x2 : Int) (rec_poly_canTurn_L1 : Int → Option (Bool ⊕ Unit)) (x6 : Bool) : Option (Bool ⊕ Unit) :=
  bif x6 then
    some (Sum.inl false)
  else
    rec_poly_canTurn_L1 (w64 (x2 + 1))

def poly_canTurn_L1 (a1 : List Point) : Nat → Int → Option (Bool ⊕ Unit)
  | 0, _ => none
  | n + 1, x2 =>
    bif decide (x2 < ((a1.length : Nat) : Int)) then
      bif inb x2 a1.length then
        bif ((a1.getD x2.toNat default).X) == (-9223372036854775808) then
          poly_canTurn_k2 x2 (poly_canTurn_L1 a1 n) true
        else
          poly_canTurn_k2 x2 (poly_canTurn_L1 a1 n) (((a1.getD x2.toNat default).Y) == (-9223372036854775808))
      else none
    else
      some (Sum.inr ())

def poly_canTurn (a1 : List Point) : Option Bool :=
  (poly_canTurn_L1 a1 FUEL 0).bind fun u10 => Sum.elim (fun v11 => some v11) (fun o8 =>
  some true) u10

def poly_Turn_L1 (a1 : List Point) (a2 : Int) : Nat → (List Point) → Int → Option (List Point)
  | 0, _, _ => none
  | n + 1, l8, x9 =>
    bif decide (x9 < ((a1.length : Nat) : Int)) then
      bif inb x9 a1.length then
        bif inb x9 l8.length then
          (poly_Turn_L1 a1 a2 n) (l8.set x9.toNat (Point.mk (w64 ((w64 (((tab_turns.getD (Int.tmod (w64 ((Int.tmod a2 4) + 4)) 4).toNat default).X) * ((a1.getD x9.toNat default).X))) - (w64 (((tab_turns.getD (Int.tmod (w64 ((Int.tmod a2 4) + 4)) 4).toNat default).Y) * ((a1.getD x9.toNat default).Y))))) (w64 ((w64 (((tab_turns.getD (Int.tmod (w64 ((Int.tmod a2 4) + 4)) 4).toNat default).Y) * ((a1.getD x9.toNat default).X))) + (w64 (((tab_turns.getD (Int.tmod (w64 ((Int.tmod a2 4) + 4)) 4).toNat default).X) * ((a1.getD x9.toNat default).Y))))))) (w64 (x9 + 1))
        else none
      else none
    else
      some l8

def poly_Turn (a1 : List Point) (a2 : Int) : Option (List Point) :=
  (poly_canTurn a1).bind fun v3 =>
  bif !v3 then
    some ([] : List Point)
  else
    bif inb (Int.tmod (w64 ((Int.tmod a2 4) + 4)) 4) 4 then
      bif mkOk ((a1.length : Nat) : Int) 16 then
        (poly_Turn_L1 a1 a2 FUEL (List.replicate (((a1.length : Nat) : Int).toNat) (Point.mk 0 0)) 0).bind fun o14 =>
        some o14
      else none
    else none

def ref09_Same_L1 (a1 : List Point) (a2 : List Point) : Nat → Int → Option (Bool ⊕ Unit)
  | 0, _ => none
  | n + 1, x4 =>
    bif decide (x4 < ((a1.length : Nat) : Int)) then
      bif inb x4 a1.length then
        bif inb x4 a2.length then
          bif !((((a1.getD x4.toNat default).X) == ((a2.getD x4.toNat default).X)) && ((((a1.getD x4.toNat default).Y) == ((a2.getD x4.toNat default).Y)) && true)) then
            some (Sum.inl false)
          else
            (ref09_Same_L1 a1 a2 n) (w64 (x4 + 1))
        else none
      else none
    else
      some (Sum.inr ())

def ref09_Same (a1 : List Point) (a2 : List Point) : Option Bool :=
  bif ((a1.length : Nat) : Int) != ((a2.length : Nat) : Int) then
    some false
  else
    (ref09_Same_L1 a1 a2 FUEL 0).bind fun u11 => Sum.elim (fun v12 => some v12) (fun o9 =>
    some true) u11

def poly_Mirror_L1 (a1 : List Point) : Nat → (List Point) → Int → Option (List Point)
  | 0, _, _ => none
  | n + 1, l6, x7 =>
    bif decide (x7 < ((a1.length : Nat) : Int)) then
      bif inb x7 a1.length then
        bif inb (w64 ((w64 (((a1.length : Nat) : Int) - 1)) - x7)) l6.length then
          (poly_Mirror_L1 a1 n) (l6.set ((w64 ((w64 (((a1.length : Nat) : Int) - 1)) - x7)).toNat) (Point.mk (w64 (0 - ((a1.getD x7.toNat default).X))) ((a1.getD x7.toNat default).Y))) (w64 (x7 + 1))
        else none
      else none
    else
      some l6

def poly_Mirror (a1 : List Point) : Option (List Point) :=
  (poly_canTurn a1).bind fun v2 =>
  bif !v2 then
    some ([] : List Point)
  else
    bif mkOk ((a1.length : Nat) : Int) 16 then
      (poly_Mirror_L1 a1 FUEL (List.replicate (((a1.length : Nat) : Int).toNat) (Point.mk 0 0)) 0).bind fun o12 =>
      some o12
    else none

def law09_awake_k1 (x94 : Bool) : Option Bool :=
  some x94

def law09_awake : Option Bool :=
  (law09_pt 0 0).bind fun v1 =>
  (law09_pt 4 0).bind fun v3 =>
  (law09_pt 0 4).bind fun v5 =>
  (law09_pt 0 0).bind fun v7 =>
  (law09_pt 0 3).bind fun v9 =>
  (law09_pt 4 0).bind fun v11 =>
  (law09_pt 0 0).bind fun v13 =>
  (law09_pt 2 0).bind fun v15 =>
  (law09_pt 4 0).bind fun v17 =>
  (law09_pt 1 1).bind fun v19 =>
  (law09_pt 4 4).bind fun v21 =>
  (law09_pt 0 0).bind fun v23 =>
  (law09_pt 10 0).bind fun v25 =>
  (law09_pt 10 10).bind fun v27 =>
  (law09_pt 0 10).bind fun v29 =>
  (law09_pt 5 15).bind fun v31 =>
  (poly_Check ([v1, v3, v5] : List Point)).bind fun v33 =>
  bif v33 == 0 then
    bif slOk 0 2 ([v1, v3, v5] : List Point).length then
      (poly_Check (([v1, v3, v5] : List Point).take ((2 : Int).toNat))).bind fun v37 =>
      bif v37 == 3 then
        (poly_Area2 ([v7, v9, v11] : List Point)).bind fun v40 =>
        bif v40 == (-12) then
          (poly_Bounds ([v23, v25, v27, v29, v31] : List Point)).bind fun v43 =>
          bif (((v43.X.A == 0) && ((v43.X.B == 10) && true)) && (((v43.Y.A == 0) && ((v43.Y.B == 15) && true)) && true)) then
            (law09_pt 3 1).bind fun v46 =>
            (poly_Turn ([v46] : List Point) (-1)).bind fun v48 =>
            (law09_pt 1 (-3)).bind fun v50 =>
            (ref09_Same v48 ([v50] : List Point)).bind fun v52 =>
            bif v52 then
              (poly_Mirror ([v7, v9, v11] : List Point)).bind fun v55 =>
              (law09_pt (-4) 0).bind fun v57 =>
              (law09_pt 0 3).bind fun v59 =>
              (law09_pt 0 0).bind fun v61 =>
              (ref09_Same v55 ([v57, v59, v61] : List Point)).bind fun v63 =>
              bif v63 then
                (law09_pt 2 2).bind fun v66 =>
                (poly_Has ([v1, v3, v5] : List Point) v66).bind fun v68 =>
                bif v68 then
                  (law09_pt 1 1).bind fun v71 =>
                  (poly_Has ([v1, v3, v5] : List Point) v71).bind fun v73 =>
                  bif v73 then
                    (law09_pt 3 2).bind fun v76 =>
                    (poly_Has ([v1, v3, v5] : List Point) v76).bind fun v78 =>
                    bif !v78 then
                      (poly_Hull ([v13, v15, v17, v19, v21] : List Point)).bind fun v81 =>
                      (law09_pt 0 0).bind fun v83 =>
                      (law09_pt 4 0).bind fun v85 =>
                      (law09_pt 4 4).bind fun v87 =>
                      (ref09_Same v81 ([v83, v85, v87] : List Point)).bind fun v89 =>
                      bif v89 then
                        (poly_Chord ([v23, v25, v27, v29, v31] : List Point) 5 12).bind fun v92 =>
                        law09_awake_k1 ((v92.A == 2) && ((v92.B == 8) && true))
                      else
                        law09_awake_k1 false
                    else
                      law09_awake_k1 false
                  else
                    law09_awake_k1 false
                else
                  law09_awake_k1 false
              else
                law09_awake_k1 false
            else
              law09_awake_k1 false
          else
            law09_awake_k1 false
        else
          law09_awake_k1 false
      else
        law09_awake_k1 false
    else none
  else
    law09_awake_k1 false

def ref09_Bounds_L1 (a1 : List Point) : Nat → Int → Rect → Option Rect
  | 0, _, _ => none
  | n + 1, x4, x5 =>
    bif decide (x4 < ((a1.length : Nat) : Int)) then
      bif inb x4 a1.length then
        (ref09_Bounds_L1 a1 n) (w64 (x4 + 1)) (Rect.mk (Span.mk (imin x5.X.A ((a1.getD x4.toNat default).X)) (imax x5.X.B ((a1.getD x4.toNat default).X))) (Span.mk (imin x5.Y.A ((a1.getD x4.toNat default).Y)) (imax x5.Y.B ((a1.getD x4.toNat default).Y))))
      else none
    else
      some x5

def ref09_Bounds (a1 : List Point) : Option Rect :=
  bif ((a1.length : Nat) : Int) == 0 then
    some (Rect.mk (Span.mk 0 0) (Span.mk 0 0))
  else
    bif inb 0 a1.length then
      (ref09_Bounds_L1 a1 FUEL 1 (Rect.mk (Span.mk ((a1.getD (0 : Int).toNat default).X) ((a1.getD (0 : Int).toNat default).X)) (Span.mk ((a1.getD (0 : Int).toNat default).Y) ((a1.getD (0 : Int).toNat default).Y)))).bind fun o9 =>
      some o9
    else none

def law09_PolyChecks_k1 (x24 : Bool) : Option Bool :=
  some x24

def law09_PolyChecks (a1 : List Point) : Option Bool :=
  (law09_few a1).bind fun v2 =>
  bif !v2 then
    (law09_awake).bind fun v5 =>
    some v5
  else
    (poly_Check a1).bind fun v7 =>
    (ref09_Check a1).bind fun v9 =>
    bif v7 == v9 then
      (poly_Area2 a1).bind fun v12 =>
      (ref09_Area2 a1).bind fun v14 =>
      bif v12 == v14 then
        (poly_Bounds a1).bind fun v17 =>
        (ref09_Bounds a1).bind fun v19 =>
        bif (((v17.X.A == v19.X.A) && ((v17.X.B == v19.X.B) && true)) && (((v17.Y.A == v19.Y.A) && ((v17.Y.B == v19.Y.B) && true)) && true)) then
          (law09_awake).bind fun v22 =>
          law09_PolyChecks_k1 v22
        else
          law09_PolyChecks_k1 false
      else
        law09_PolyChecks_k1 false
    else
      law09_PolyChecks_k1 false

def ref09_negative_k2 (x2 : Int) (rec_ref09_negative_L1 : Int → Option (Bool ⊕ Unit)) (x6 : Bool) : Option (Bool ⊕ Unit) :=
  bif x6 then
    some (Sum.inl false)
  else
    rec_ref09_negative_L1 (w64 (x2 + 1))

def ref09_negative_L1 (a1 : List Point) : Nat → Int → Option (Bool ⊕ Unit)
  | 0, _ => none
  | n + 1, x2 =>
    bif decide (x2 < ((a1.length : Nat) : Int)) then
      bif inb x2 a1.length then
        bif ((a1.getD x2.toNat default).X) == (-9223372036854775808) then
          ref09_negative_k2 x2 (ref09_negative_L1 a1 n) true
        else
          ref09_negative_k2 x2 (ref09_negative_L1 a1 n) (((a1.getD x2.toNat default).Y) == (-9223372036854775808))
      else none
    else
      some (Sum.inr ())

def ref09_negative (a1 : List Point) : Option Bool :=
  (ref09_negative_L1 a1 FUEL 0).bind fun u10 => Sum.elim (fun v11 => some v11) (fun o8 =>
  some true) u10

def ref09_Quarters (a1 : Int) : Option Int :=
  some (Int.tmod (w64 ((Int.tmod a1 4) + 4)) 4)

def ref09_Turned_L1 (a2 : Int) : Nat → Int → Point → Option Point
  | 0, _, _ => none
  | n + 1, x3, x4 =>
    bif decide (x3 < a2) then
      (ref09_Turned_L1 a2 n) (w64 (x3 + 1)) (Point.mk (w64 (0 - x4.Y)) x4.X)
    else
      some x4

def ref09_Turned (a1 : Point) (a2 : Int) : Option Point :=
  (ref09_Turned_L1 a2 FUEL 0 a1).bind fun o7 =>
  some o7

def ref09_Turn_L1 (a1 : List Point) (a2 : Int) : Nat → (List Point) → Int → Option (List Point)
  | 0, _, _ => none
  | n + 1, l6, x7 =>
    bif decide (x7 < ((a1.length : Nat) : Int)) then
      bif inb x7 a1.length then
        (ref09_Quarters a2).bind fun v10 =>
        (ref09_Turned (a1.getD x7.toNat default) v10).bind fun v12 =>
        bif room (l6.length + 1) 16 then
          (ref09_Turn_L1 a1 a2 n) (l6 ++ ([v12] : List Point)) (w64 (x7 + 1))
        else none
      else none
    else
      some l6

def ref09_Turn (a1 : List Point) (a2 : Int) : Option (List Point) :=
  (ref09_negative a1).bind fun v3 =>
  bif !v3 then
    some ([] : List Point)
  else
    (ref09_Turn_L1 a1 a2 FUEL ([] : List Point) 0).bind fun o16 =>
    some o16

def ref09_Mirror_L1 (a1 : List Point) : Nat → (List Point) → Int → Option (List Point)
  | 0, _, _ => none
  | n + 1, l5, x6 =>
    bif decide (x6 ≥ 0) then
      bif inb x6 a1.length then
        bif room (l5.length + 1) 16 then
          (ref09_Mirror_L1 a1 n) (l5 ++ ([(Point.mk (w64 (0 - ((a1.getD x6.toNat default).X))) ((a1.getD x6.toNat default).Y))] : List Point)) (w64 (x6 - 1))
        else none
      else none
    else
      some l5

def ref09_Mirror (a1 : List Point) : Option (List Point) :=
  (ref09_negative a1).bind fun v2 =>
  bif !v2 then
    some ([] : List Point)
  else
    (ref09_Mirror_L1 a1 FUEL ([] : List Point) (w64 (((a1.length : Nat) : Int) - 1))).bind fun o11 =>
    some o11

def law09_PolyTurns_k1 (x24 : Bool) : Option Bool :=
  some x24

def law09_PolyTurns (a1 : List Point) (a2 : Int) : Option Bool :=
  (law09_few a1).bind fun v3 =>
  bif !v3 then
    (law09_awake).bind fun v6 =>
    some v6
  else
    (poly_Turn a1 a2).bind fun v8 =>
    (ref09_Turn a1 a2).bind fun v10 =>
    (ref09_Same v8 v10).bind fun v12 =>
    bif v12 then
      (poly_Mirror a1).bind fun v15 =>
      (ref09_Mirror a1).bind fun v17 =>
      (ref09_Same v15 v17).bind fun v19 =>
      bif v19 then
        (law09_awake).bind fun v22 =>
        law09_PolyTurns_k1 v22
      else
        law09_PolyTurns_k1 false
    else
      law09_PolyTurns_k1 false

def ref09_Has_k5 (x11 : Int) (rec_ref09_Has_L2 : Bool → Int → Option (Bool ⊕ Bool)) (x43 : Bool) : Option (Bool ⊕ Bool) :=
  rec_ref09_Has_L2 x43 (w64 (x11 + 1))

def ref09_Has_k4 (x10 : Bool) (x11 : Int) (rec_ref09_Has_L2 : Bool → Int → Option (Bool ⊕ Bool)) (x41 : Bool) : Option (Bool ⊕ Bool) :=
  bif x41 then
    ref09_Has_k5 x11 rec_ref09_Has_L2 (!x10)
  else
    ref09_Has_k5 x11 rec_ref09_Has_L2 x10

def ref09_Has_k3 (a1 : List Point) (a2 : Point) (x10 : Bool) (x11 : Int) (rec_ref09_Has_L2 : Bool → Int → Option (Bool ⊕ Bool)) (x22 : Bool) : Option (Bool ⊕ Bool) :=
  bif x22 then
    some (Sum.inl true)
  else
    bif decide (((a1.getD x11.toNat default).Y) ≤ a2.Y) then
      bif decide (a2.Y < ((a1.getD (Int.tmod (w64 (x11 + 1)) ((a1.length : Nat) : Int)).toNat default).Y)) then
        (ref09_Cross (a1.getD x11.toNat default) (a1.getD (Int.tmod (w64 (x11 + 1)) ((a1.length : Nat) : Int)).toNat default) a2).bind fun v26 =>
        bif decide (v26 > 0) then
          ref09_Has_k4 x10 x11 rec_ref09_Has_L2 true
        else
          bif decide (((a1.getD (Int.tmod (w64 (x11 + 1)) ((a1.length : Nat) : Int)).toNat default).Y) ≤ a2.Y) then
            bif decide (a2.Y < ((a1.getD x11.toNat default).Y)) then
              (ref09_Cross (a1.getD x11.toNat default) (a1.getD (Int.tmod (w64 (x11 + 1)) ((a1.length : Nat) : Int)).toNat default) a2).bind fun v31 =>
              ref09_Has_k4 x10 x11 rec_ref09_Has_L2 (decide (v31 < 0))
            else
              ref09_Has_k4 x10 x11 rec_ref09_Has_L2 false
          else
            ref09_Has_k4 x10 x11 rec_ref09_Has_L2 false
      else
        bif decide (((a1.getD (Int.tmod (w64 (x11 + 1)) ((a1.length : Nat) : Int)).toNat default).Y) ≤ a2.Y) then
          bif decide (a2.Y < ((a1.getD x11.toNat default).Y)) then
            (ref09_Cross (a1.getD x11.toNat default) (a1.getD (Int.tmod (w64 (x11 + 1)) ((a1.length : Nat) : Int)).toNat default) a2).bind fun v35 =>
            ref09_Has_k4 x10 x11 rec_ref09_Has_L2 (decide (v35 < 0))
          else
            ref09_Has_k4 x10 x11 rec_ref09_Has_L2 false
        else
          ref09_Has_k4 x10 x11 rec_ref09_Has_L2 false
    else
      bif decide (((a1.getD (Int.tmod (w64 (x11 + 1)) ((a1.length : Nat) : Int)).toNat default).Y) ≤ a2.Y) then
        bif decide (a2.Y < ((a1.getD x11.toNat default).Y)) then
          (ref09_Cross (a1.getD x11.toNat default) (a1.getD (Int.tmod (w64 (x11 + 1)) ((a1.length : Nat) : Int)).toNat default) a2).bind fun v39 =>
          ref09_Has_k4 x10 x11 rec_ref09_Has_L2 (decide (v39 < 0))
        else
          ref09_Has_k4 x10 x11 rec_ref09_Has_L2 false
      else
        ref09_Has_k4 x10 x11 rec_ref09_Has_L2 false

def ref09_Has_L2 (a1 : List Point) (a2 : Point) : Nat → Bool → Int → Option (Bool ⊕ Bool)
  | 0, _, _ => none
  | n + 1, x10, x11 =>
    bif decide (x11 < ((a1.length : Nat) : Int)) then
      bif inb x11 a1.length then
        bif nz ((a1.length : Nat) : Int) then
          bif inb (Int.tmod (w64 (x11 + 1)) ((a1.length : Nat) : Int)) a1.length then
            (ref09_Cross (a1.getD x11.toNat default) (a1.getD (Int.tmod (w64 (x11 + 1)) ((a1.length : Nat) : Int)).toNat default) a2).bind fun v16 =>
            bif v16 == 0 then
              bif decide ((imin ((a1.getD x11.toNat default).X) ((a1.getD (Int.tmod (w64 (x11 + 1)) ((a1.length : Nat) : Int)).toNat default).X)) ≤ a2.X) then
                bif decide (a2.X ≤ (imax ((a1.getD x11.toNat default).X) ((a1.getD (Int.tmod (w64 (x11 + 1)) ((a1.length : Nat) : Int)).toNat default).X))) then
                  bif decide ((imin ((a1.getD x11.toNat default).Y) ((a1.getD (Int.tmod (w64 (x11 + 1)) ((a1.length : Nat) : Int)).toNat default).Y)) ≤ a2.Y) then
                    ref09_Has_k3 a1 a2 x10 x11 (ref09_Has_L2 a1 a2 n) (decide (a2.Y ≤ (imax ((a1.getD x11.toNat default).Y) ((a1.getD (Int.tmod (w64 (x11 + 1)) ((a1.length : Nat) : Int)).toNat default).Y))))
                  else
                    ref09_Has_k3 a1 a2 x10 x11 (ref09_Has_L2 a1 a2 n) false
                else
                  ref09_Has_k3 a1 a2 x10 x11 (ref09_Has_L2 a1 a2 n) false
              else
                ref09_Has_k3 a1 a2 x10 x11 (ref09_Has_L2 a1 a2 n) false
            else
              ref09_Has_k3 a1 a2 x10 x11 (ref09_Has_L2 a1 a2 n) false
          else none
        else none
      else none
    else
      some (Sum.inr x10)

def ref09_Has_k1 (a1 : List Point) (a2 : Point) (x8 : Bool) : Option Bool :=
  bif x8 then
    some false
  else
    (ref09_Has_L2 a1 a2 FUEL false 0).bind fun u47 => Sum.elim (fun v48 => some v48) (fun o45 =>
    some o45) u47

def ref09_Has (a1 : List Point) (a2 : Point) : Option Bool :=
  (ref09_Check a1).bind fun v3 =>
  bif v3 != 0 then
    ref09_Has_k1 a1 a2 true
  else
    (ref09_Ranged ([a2] : List Point)).bind fun v6 =>
    ref09_Has_k1 a1 a2 (!v6)

def law09_PolyHas_k1 (x15 : Bool) : Option Bool :=
  some x15

def law09_PolyHas (a1 : List Point) (a2 : Point) : Option Bool :=
  (law09_few a1).bind fun v3 =>
  bif !v3 then
    (law09_awake).bind fun v6 =>
    some v6
  else
    (poly_Has a1 a2).bind fun v8 =>
    (ref09_Has a1 a2).bind fun v10 =>
    bif v8 == v10 then
      (law09_awake).bind fun v13 =>
      law09_PolyHas_k1 v13
    else
      law09_PolyHas_k1 false

def law09_PolyHulls_k1 (x16 : Bool) : Option Bool :=
  some x16

def law09_PolyHulls (a1 : List Point) : Option Bool :=
  (law09_few a1).bind fun v2 =>
  bif !v2 then
    (law09_awake).bind fun v5 =>
    some v5
  else
    (poly_Hull a1).bind fun v7 =>
    (ref09_Hull a1).bind fun v9 =>
    (ref09_Same v7 v9).bind fun v11 =>
    bif v11 then
      (law09_awake).bind fun v14 =>
      law09_PolyHulls_k1 v14
    else
      law09_PolyHulls_k1 false

def law09_PolyChords_k1 (x16 : Bool) : Option Bool :=
  some x16

def law09_PolyChords (a1 : List Point) (a2 : Int) (a3 : Int) : Option Bool :=
  (law09_few a1).bind fun v4 =>
  bif !v4 then
    (law09_awake).bind fun v7 =>
    some v7
  else
    (poly_Chord a1 a2 a3).bind fun v9 =>
    (ref09_Chord a1 a2 a3).bind fun v11 =>
    bif ((v9.A == v11.A) && ((v9.B == v11.B) && true)) then
      (law09_awake).bind fun v14 =>
      law09_PolyChords_k1 v14
    else
      law09_PolyChords_k1 false

def law09_PolyBack_k4 (x88 : Bool) : Option Bool :=
  some x88

def law09_PolyBack_k3 (a1 : List Point) (v13 : Int) (v15 : (List Point)) (v17 : (List Point)) (x62 : Bool) : Option Bool :=
  bif x62 then
    some false
  else
    (poly_Hull v15).bind fun v64 =>
    (poly_Hull a1).bind fun v66 =>
    (poly_Turn v66 v13).bind fun v68 =>
    (poly_Hull v68).bind fun v70 =>
    (ref09_Same v64 v70).bind fun v72 =>
    bif v72 then
      (poly_Hull v17).bind fun v75 =>
      (poly_Hull a1).bind fun v77 =>
      (poly_Mirror v77).bind fun v79 =>
      (poly_Hull v79).bind fun v81 =>
      (ref09_Same v75 v81).bind fun v83 =>
      bif v83 then
        (law09_awake).bind fun v86 =>
        law09_PolyBack_k4 v86
      else
        law09_PolyBack_k4 false
    else
      law09_PolyBack_k4 false

def law09_PolyBack_k2 (a1 : List Point) (a2 : Point) (v13 : Int) (v15 : (List Point)) (v17 : (List Point)) (x43 : Bool) : Option Bool :=
  bif x43 then
    some false
  else
    (poly_Turn ([a2] : List Point) v13).bind fun v45 =>
    (poly_Mirror ([a2] : List Point)).bind fun v47 =>
    bif ((v45.length : Nat) : Int) != 1 then
      law09_PolyBack_k3 a1 v13 v15 v17 true
    else
      bif ((v47.length : Nat) : Int) != 1 then
        law09_PolyBack_k3 a1 v13 v15 v17 true
      else
        bif inb 0 v45.length then
          (poly_Has v15 (v45.getD ((0 : Int).toNat) default)).bind fun v52 =>
          (poly_Has a1 a2).bind fun v54 =>
          bif !(v52 == v54) then
            law09_PolyBack_k3 a1 v13 v15 v17 true
          else
            bif inb 0 v47.length then
              (poly_Has v17 (v47.getD ((0 : Int).toNat) default)).bind fun v58 =>
              (poly_Has a1 a2).bind fun v60 =>
              law09_PolyBack_k3 a1 v13 v15 v17 (!(v58 == v60))
            else none
        else none

def law09_PolyBack_k1 (a1 : List Point) (a2 : Point) (a3 : Int) (x9 : Bool) : Option Bool :=
  bif x9 then
    (law09_awake).bind fun v11 =>
    some v11
  else
    (ref09_Quarters a3).bind fun v13 =>
    (poly_Turn a1 v13).bind fun v15 =>
    (poly_Mirror a1).bind fun v17 =>
    (poly_Turn v15 (w64 (0 - v13))).bind fun v19 =>
    (ref09_Same v19 a1).bind fun v21 =>
    bif !v21 then
      law09_PolyBack_k2 a1 a2 v13 v15 v17 true
    else
      (poly_Turn v15 (w64 (4 - v13))).bind fun v24 =>
      (ref09_Same v24 a1).bind fun v26 =>
      bif !v26 then
        law09_PolyBack_k2 a1 a2 v13 v15 v17 true
      else
        (poly_Mirror v17).bind fun v29 =>
        (ref09_Same v29 a1).bind fun v31 =>
        bif !v31 then
          law09_PolyBack_k2 a1 a2 v13 v15 v17 true
        else
          (poly_Area2 v15).bind fun v34 =>
          (poly_Area2 a1).bind fun v36 =>
          bif v34 != v36 then
            law09_PolyBack_k2 a1 a2 v13 v15 v17 true
          else
            (poly_Area2 v17).bind fun v39 =>
            (poly_Area2 a1).bind fun v41 =>
            law09_PolyBack_k2 a1 a2 v13 v15 v17 (v39 != v41)

def law09_PolyBack (a1 : List Point) (a2 : Point) (a3 : Int) : Option Bool :=
  (ref09_Check a1).bind fun v4 =>
  bif v4 != 0 then
    law09_PolyBack_k1 a1 a2 a3 true
  else
    (ref09_Ranged ([a2] : List Point)).bind fun v7 =>
    law09_PolyBack_k1 a1 a2 a3 (!v7)

def law09_PolyConvex_L2 (a1 : List Point) : Nat → (List Point) → Int → Option (List Point)
  | 0, _, _ => none
  | n + 1, l11, x12 =>
    bif decide (x12 ≥ 0) then
      bif inb x12 a1.length then
        bif room (l11.length + 1) 16 then
          (law09_PolyConvex_L2 a1 n) (l11 ++ ([(a1.getD x12.toNat default)] : List Point)) (w64 (x12 - 1))
        else none
      else none
    else
      some l11

def law09_PolyConvex_L5 (a1 : List Point) (x32 : Int) : Nat → Int → Option (Bool ⊕ Unit)
  | 0, _ => none
  | n + 1, x34 =>
    bif decide (x34 < x32) then
      bif inb 0 a1.length then
        bif inb x34 a1.length then
          bif inb x32 a1.length then
            (ref09_Cross (a1.getD (0 : Int).toNat default) (a1.getD x34.toNat default) (a1.getD x32.toNat default)).bind fun v39 =>
            bif v39 != 0 then
              some (Sum.inl false)
            else
              (law09_PolyConvex_L5 a1 x32 n) (w64 (x34 + 1))
          else none
        else none
      else none
    else
      some (Sum.inr ())

def law09_PolyConvex_L4 (a1 : List Point) : Nat → Int → Option (Bool ⊕ Unit)
  | 0, _ => none
  | n + 1, x32 =>
    bif decide (x32 < ((a1.length : Nat) : Int)) then
      (law09_PolyConvex_L5 a1 x32 FUEL 0).bind fun u44 => Sum.elim (fun v45 => some (Sum.inl v45)) (fun o42 =>
      (law09_PolyConvex_L4 a1 n) (w64 (x32 + 1))) u44
    else
      some (Sum.inr ())

def law09_PolyConvex_k7 (x52 : Int) (rec_law09_PolyConvex_L6 : Int → Option (Bool ⊕ Unit)) (x61 : Bool) : Option (Bool ⊕ Unit) :=
  bif x61 then
    some (Sum.inl false)
  else
    rec_law09_PolyConvex_L6 (w64 (x52 + 1))

def law09_PolyConvex_L6 (a1 : List Point) (v9 : (List Point)) : Nat → Int → Option (Bool ⊕ Unit)
  | 0, _ => none
  | n + 1, x52 =>
    bif decide (x52 < ((a1.length : Nat) : Int)) then
      bif inb x52 a1.length then
        (poly_Has v9 (a1.getD x52.toNat default)).bind fun v55 =>
        bif !v55 then
          law09_PolyConvex_k7 x52 (law09_PolyConvex_L6 a1 v9 n) true
        else
          bif inb 0 v9.length then
            (ref09_Before (a1.getD x52.toNat default) (v9.getD ((0 : Int).toNat) default)).bind fun v59 =>
            law09_PolyConvex_k7 x52 (law09_PolyConvex_L6 a1 v9 n) v59
          else none
      else none
    else
      some (Sum.inr ())

def law09_PolyConvex_k10 (x77 : Int) (rec_law09_PolyConvex_L9 : Bool → Int → Option Bool) (x82 : Bool) : Option Bool :=
  rec_law09_PolyConvex_L9 x82 (w64 (x77 + 1))

def law09_PolyConvex_L9 (a1 : List Point) (v9 : (List Point)) (x67 : Int) : Nat → Bool → Int → Option Bool
  | 0, _, _ => none
  | n + 1, x76, x77 =>
    bif decide (x77 < ((a1.length : Nat) : Int)) then
      bif x76 then
        law09_PolyConvex_k10 x77 (law09_PolyConvex_L9 a1 v9 x67 n) true
      else
        bif inb x77 a1.length then
          bif inb x67 v9.length then
            law09_PolyConvex_k10 x77 (law09_PolyConvex_L9 a1 v9 x67 n) ((((a1.getD x77.toNat default).X) == ((v9.getD x67.toNat default).X)) && ((((a1.getD x77.toNat default).Y) == ((v9.getD x67.toNat default).Y)) && true))
          else none
        else none
    else
      some x76

def law09_PolyConvex_L8 (a1 : List Point) (v9 : (List Point)) : Nat → Int → Option (Bool ⊕ Unit)
  | 0, _ => none
  | n + 1, x67 =>
    bif decide (x67 < ((v9.length : Nat) : Int)) then
      bif inb x67 v9.length then
        bif nz ((v9.length : Nat) : Int) then
          bif inb (Int.tmod (w64 (x67 + 1)) ((v9.length : Nat) : Int)) v9.length then
            bif inb (Int.tmod (w64 (x67 + 2)) ((v9.length : Nat) : Int)) v9.length then
              (ref09_Cross (v9.getD x67.toNat default) (v9.getD ((Int.tmod (w64 (x67 + 1)) ((v9.length : Nat) : Int)).toNat) default) (v9.getD ((Int.tmod (w64 (x67 + 2)) ((v9.length : Nat) : Int)).toNat) default)).bind fun v73 =>
              bif decide (v73 ≤ 0) then
                some (Sum.inl false)
              else
                (law09_PolyConvex_L9 a1 v9 x67 FUEL false 0).bind fun o84 =>
                bif !o84 then
                  some (Sum.inl false)
                else
                  (law09_PolyConvex_L8 a1 v9 n) (w64 (x67 + 1))
            else none
          else none
        else none
      else none
    else
      some (Sum.inr ())

def law09_PolyConvex_k3 (a1 : List Point) (v9 : (List Point)) (x29 : Bool) : Option Bool :=
  bif x29 then
    some false
  else
    bif ((v9.length : Nat) : Int) == 0 then
      (law09_PolyConvex_L4 a1 FUEL 0).bind fun u48 => Sum.elim (fun v49 => some v49) (fun o46 =>
      (law09_awake).bind fun v50 =>
      some v50) u48
    else
      (law09_PolyConvex_L6 a1 v9 FUEL 0).bind fun u65 => Sum.elim (fun v66 => some v66) (fun o63 =>
      (law09_PolyConvex_L8 a1 v9 FUEL 0).bind fun u89 => Sum.elim (fun v90 => some v90) (fun o87 =>
      (law09_awake).bind fun v91 =>
      some v91) u89) u65

def law09_PolyConvex_k1 (a1 : List Point) (x5 : Bool) : Option Bool :=
  bif x5 then
    (law09_awake).bind fun v7 =>
    some v7
  else
    (poly_Hull a1).bind fun v9 =>
    (law09_PolyConvex_L2 a1 FUEL ([] : List Point) (w64 (((a1.length : Nat) : Int) - 1))).bind fun o17 =>
    (poly_Hull o17).bind fun v19 =>
    (ref09_Same v19 v9).bind fun v21 =>
    bif !v21 then
      law09_PolyConvex_k3 a1 v9 true
    else
      bif decide (((v9.length : Nat) : Int) > 0) then
        (poly_Hull v9).bind fun v25 =>
        (ref09_Same v25 v9).bind fun v27 =>
        law09_PolyConvex_k3 a1 v9 (!v27)
      else
        law09_PolyConvex_k3 a1 v9 false

def law09_PolyConvex (a1 : List Point) : Option Bool :=
  bif decide (((a1.length : Nat) : Int) > 32) then
    law09_PolyConvex_k1 a1 true
  else
    (ref09_Ranged a1).bind fun v3 =>
    law09_PolyConvex_k1 a1 (!v3)

def law09_inside_k1 (x25 : Bool) : Option Bool :=
  some x25

def law09_inside (a1 : List Point) (a2 : Int) (a3 : Int) (a4 : Int) (a5 : Int) : Option Bool :=
  (law09_pt a2 a4).bind fun v6 =>
  (poly_Has a1 v6).bind fun v8 =>
  bif v8 then
    (law09_pt a2 a5).bind fun v11 =>
    (poly_Has a1 v11).bind fun v13 =>
    bif v13 then
      (law09_pt a3 a4).bind fun v16 =>
      (poly_Has a1 v16).bind fun v18 =>
      bif v18 then
        (law09_pt a3 a5).bind fun v21 =>
        (poly_Has a1 v21).bind fun v23 =>
        law09_inside_k1 v23
      else
        law09_inside_k1 false
    else
      law09_inside_k1 false
  else
    law09_inside_k1 false

def law09_PolyChord_k2 (x29 : Bool) : Option Bool :=
  some x29

def law09_PolyChord_k3 (x43 : Bool) : Option Bool :=
  some x43

def law09_PolyChord_k1 (a1 : List Point) (a2 : List Int) (a3 : Int) (x9 : Bool) : Option Bool :=
  bif x9 then
    (law09_awake).bind fun v11 =>
    some v11
  else
    (poly_Hull a1).bind fun v13 =>
    (poly_Chord a1 (a2.getD 0 default) (a2.getD 1 default)).bind fun v15 =>
    bif ((v15.A == 0) && ((v15.B == 0) && true)) then
      bif ((v13.length : Nat) : Int) == 0 then
        (law09_awake).bind fun v19 =>
        law09_PolyChord_k2 v19
      else
        bif decide ((a2.getD 0 default) ≥ (a2.getD 1 default)) then
          (law09_awake).bind fun v22 =>
          law09_PolyChord_k2 v22
        else
          (law09_inside v13 a3 (w64 (a3 + 1)) (a2.getD 0 default) (a2.getD 1 default)).bind fun v24 =>
          bif !v24 then
            (law09_awake).bind fun v27 =>
            law09_PolyChord_k2 v27
          else
            law09_PolyChord_k2 false
    else
      bif decide (v15.A < v15.B) then
        bif decide ((a2.getD 0 default) < (a2.getD 1 default)) then
          (law09_inside v13 v15.A v15.B (a2.getD 0 default) (a2.getD 1 default)).bind fun v32 =>
          bif v32 then
            (law09_inside v13 (w64 (v15.A - 1)) v15.B (a2.getD 0 default) (a2.getD 1 default)).bind fun v35 =>
            bif !v35 then
              (law09_inside v13 v15.A (w64 (v15.B + 1)) (a2.getD 0 default) (a2.getD 1 default)).bind fun v38 =>
              bif !v38 then
                (law09_awake).bind fun v41 =>
                law09_PolyChord_k3 v41
              else
                law09_PolyChord_k3 false
            else
              law09_PolyChord_k3 false
          else
            law09_PolyChord_k3 false
        else
          law09_PolyChord_k3 false
      else
        law09_PolyChord_k3 false

def law09_PolyChord (a1 : List Point) (a2 : List Int) (a3 : Int) : Option Bool :=
  bif decide (((a1.length : Nat) : Int) > 32) then
    law09_PolyChord_k1 a1 a2 a3 true
  else
    (ref09_Ranged a1).bind fun v5 =>
    bif !v5 then
      law09_PolyChord_k1 a1 a2 a3 true
    else
      bif decide (a3 < (-1000)) then
        law09_PolyChord_k1 a1 a2 a3 true
      else
        law09_PolyChord_k1 a1 a2 a3 (decide (a3 > 1000))

def law09_PolyWithin_k2 (x26 : Bool) : Option Bool :=
  some x26

def law09_PolyWithin_k3 (x33 : Bool) : Option Bool :=
  some x33

def law09_PolyWithin_k1 (a1 : List Point) (a2 : List Point) (a3 : List Int) (x12 : Bool) : Option Bool :=
  bif x12 then
    (law09_awake).bind fun v14 =>
    some v14
  else
    (poly_Chord a1 (a3.getD 0 default) (a3.getD 3 default)).bind fun v16 =>
    (poly_Chord a1 (a3.getD 1 default) (a3.getD 2 default)).bind fun v18 =>
    (poly_Chord ((([] : List Point) ++ a1) ++ a2) (a3.getD 0 default) (a3.getD 3 default)).bind fun v20 =>
    bif decide (v16.A ≥ v16.B) then
      bif ((v16.A == 0) && ((v16.B == 0) && true)) then
        (law09_awake).bind fun v24 =>
        law09_PolyWithin_k2 v24
      else
        law09_PolyWithin_k2 false
    else
      bif decide (v18.A ≤ v16.A) then
        bif decide (v16.B ≤ v18.B) then
          bif decide (v20.A ≤ v16.A) then
            bif decide (v16.B ≤ v20.B) then
              (law09_awake).bind fun v31 =>
              law09_PolyWithin_k3 v31
            else
              law09_PolyWithin_k3 false
          else
            law09_PolyWithin_k3 false
        else
          law09_PolyWithin_k3 false
      else
        law09_PolyWithin_k3 false

def law09_PolyWithin (a1 : List Point) (a2 : List Point) (a3 : List Int) : Option Bool :=
  bif room (0 + a1.length) 16 then
    bif room ((0 + a1.length) + a2.length) 16 then
      bif decide (((((0 + a1.length) + a2.length) : Nat) : Int) > 32) then
        law09_PolyWithin_k1 a1 a2 a3 true
      else
        (ref09_Ranged ((([] : List Point) ++ a1) ++ a2)).bind fun v7 =>
        bif !v7 then
          law09_PolyWithin_k1 a1 a2 a3 true
        else
          bif decide ((a3.getD 0 default) > (a3.getD 1 default)) then
            law09_PolyWithin_k1 a1 a2 a3 true
          else
            bif decide ((a3.getD 1 default) ≥ (a3.getD 2 default)) then
              law09_PolyWithin_k1 a1 a2 a3 true
            else
              law09_PolyWithin_k1 a1 a2 a3 (decide ((a3.getD 2 default) > (a3.getD 3 default)))
    else none
  else none

end Saw
end Go.SL
