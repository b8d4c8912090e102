/- Edge's plain mathematics, part 30: the laws EdgeMore and EdgeMoves. -/
import Derived.Test.YtgpgnlllieekbaaDoorEMa5
set_option linter.unusedVariables false
set_option linter.unusedSimpArgs false
namespace Go.SL
namespace Saw

theorem edgeR_ok {l : List Slice} {ds : List Defect} {ps : List Product} {r : Rect} {w : Saw} {t : Rates} (h : (edgeR l ds ps r w t).2.2 = 0) : VE l ds ps r w t ∧ (edgeR l ds ps r w t).2.1 = (bst (lineS l ds ps r w t) 0).value := by
  unfold edgeR at h ⊢
  by_cases c : chkE l ds ps r w t = 0
  · rw [if_pos c] at h ⊢
    refine ⟨chkE_zero.1 c, ?_⟩
    unfold edgeB at h ⊢
    by_cases c2 : (rowN 2 (lineS l ds ps r w t).Kerf r.X (edgePts ps r (lineS l ds ps r w t))).length ≤ 127
    · rw [if_pos c2]
    · rw [if_neg c2] at h; exact absurd h (by decide)
  · rw [if_neg c] at h; exact absurd h c
theorem best23_eq (a : Law23_Given) : law23_best a = some (edgeR a.Solid a.Defects a.Products a.Strip a.Saw a.Rates) := by
  unfold law23_best
  rw [edgeBest_eq]; rfl
/-! ### More products -/
theorem sizes_more {ps : List Product} {p : Product} (h1 : chk19 ps = 0) (h2 : chk19 (ps ++ [p]) = 0) (z : Int) : ∃ t1 t2, sizes (ps ++ [p]) z = ((sizes ps z).1 ++ t1, (sizes ps z).2 ++ t2) := by
  unfold sizes
  rw [if_neg (fun q => q h2), if_neg (fun q => q h1), List.length_append, List.length_singleton, foldN_succ, foldN_congr (g := sizStep ps z) (fun i _ hi s => by
    have e : (ps ++ [p]).getD i default = ps.getD i default := by rw [List.getD_eq_getElem?_getD, List.getElem?_append_left (by omega), List.getD_eq_getElem?_getD]
    unfold sizStep
    rw [e])]
  generalize foldN (sizStep ps z) 0 ps.length ([], []) = s
  unfold sizStep
  cases (green ((ps ++ [p]).getD (0 + ps.length) default)).1 == z with
  | true => exact ⟨_, _, rfl⟩
  | false => cases (green ((ps ++ [p]).getD (0 + ps.length) default)).2 == z with
    | true => exact ⟨_, _, rfl⟩
    | false => exact ⟨[], [], by simp⟩
theorem getD_app_l {α : Type} [Inhabited α] {l t : List α} {i : Nat} (h : i < l.length) : (l ++ t).getD i default = l.getD i default := by
  rw [List.getD_eq_getElem?_getD, List.getElem?_append_left h, List.getD_eq_getElem?_getD]
theorem edge_more {l : List Slice} {ds : List Defect} {ps : List Product} {p : Product} {r : Rect} {w : Saw} {t : Rates} (h : VE l ds ps r w t) (h' : VE l ds (ps ++ [p]) r w t) : (bst (lineS l ds ps r w t) 0).value ≤ (bst (lineS l ds (ps ++ [p]) r w t) 0).value := by
  have va := lineS_VL h
  have vb := lineS_VL h'
  obtain ⟨t1, t2, e⟩ := sizes_more h.pr h'.pr (r.Y.B - r.Y.A)
  have sl2 := sizes_len2 (ps := ps) (r.Y.B - r.Y.A)
  have em : lineS l ds (ps ++ [p]) r w t = more (lineS l ds ps r w t) (sizes (ps ++ [p]) (r.Y.B - r.Y.A)).1 (gains l ds (ps ++ [p]) r w t (r.Y.B - r.Y.A)) := rfl
  rw [em] at vb ⊢
  refine (bst_more va vb ?_ (fun i hi => ?_) _ 0 (Nat.le_refl _) (by have := va.len; omega)).1
  · show (sizes ps (r.Y.B - r.Y.A)).1.length ≤ _
    rw [e]; simp
  · have hi' : i < (sizes ps (r.Y.B - r.Y.A)).1.length := hi
    have e1 : (sizes (ps ++ [p]) (r.Y.B - r.Y.A)).1.getD i default = (sizes ps (r.Y.B - r.Y.A)).1.getD i default := by rw [e]; exact getD_app_l hi'
    have e2 : (sizes (ps ++ [p]) (r.Y.B - r.Y.A)).2.getD i default = (sizes ps (r.Y.B - r.Y.A)).2.getD i default := by rw [e]; exact getD_app_l (by omega)
    refine ⟨e1, ?_⟩
    show (gains l ds (ps ++ [p]) r w t (r.Y.B - r.Y.A)).getD i default = (gains l ds ps r w t (r.Y.B - r.Y.A)).getD i default
    unfold gains
    rw [getD_range _ (by rw [e]; simp; omega), getD_range _ hi', e1, e2]
    obtain ⟨_, _, k, hk, ek, _⟩ := sizes_at h.pr (r.Y.B - r.Y.A) hi'
    rw [ek, Int.toNat_natCast, getD_app_l hk]
theorem EdgeMore_true' (a : Law23_Given) (p : Product) (h : a.Products.length ≤ 1048576) : law23_EdgeMore a p = some true := by
  unfold law23_EdgeMore
  rw [room_t (by omega), room_t (by omega)]
  simp only [cond_true]
  have K : ∀ b, law23_EdgeMore_k1 a p b = some true := fun b => by
    unfold law23_EdgeMore_k1
    cases b with
    | true => rw [awake23_true]; rfl
    | false =>
      rw [best23_eq, best23_eq]
      simp only [cond_false, Option.bind_some, awake23_true, law23_EdgeMore_k2, List.nil_append]
      by_cases c1 : (edgeR a.Solid a.Defects a.Products a.Strip a.Saw a.Rates).2.2 = 0
      · by_cases c2 : (edgeR a.Solid a.Defects (a.Products ++ [p]) a.Strip a.Saw a.Rates).2.2 = 0
        · obtain ⟨v1, e1⟩ := edgeR_ok c1
          obtain ⟨v2, e2⟩ := edgeR_ok c2
          rw [c1, c2, e1, e2, decide_eq_true (edge_more v1 v2)]
          rfl
        · rw [c1, show ((edgeR a.Solid a.Defects (a.Products ++ [p]) a.Strip a.Saw a.Rates).2.2 != 0) = true by rw [bne_iff_ne]; exact c2]; rfl
      · rw [show ((edgeR a.Solid a.Defects a.Products a.Strip a.Saw a.Rates).2.2 != 0) = true by rw [bne_iff_ne]; exact c1]; rfl
  obtain ⟨b1, e1⟩ := Small_ex a
  obtain ⟨b2, e2⟩ := Small_ex (Law23_Given.mk a.Solid a.Defects ((([] : List Product) ++ a.Products) ++ ([p] : List Product)) a.Strip a.Saw a.Rates)
  rw [e1, e2]
  simp only [Option.bind_some, K]
  cases b1 <;> rfl
theorem EdgeMore_upto (a : Law23_Given) (p : Product) {w1 w2 w4 w5 w6 : Prop} (_ : w1) (_ : w2) (h : a.Products.length ≤ 1048576) (_ : w4) (_ : w5) (_ : w6) : law23_EdgeMore a p = some true := EdgeMore_true' a p h
/-! ### A log moved -/
theorem mv_of {dx : Int} (hd : -100 ≤ dx ∧ dx ≤ 100) {l : List Slice} (h : VSol l) (h' : VSol (l.map (fun s => ⟨s.Len, shiftS (val10 s.Sec) dx 0⟩))) : Mv dx l (l.map (fun s => ⟨s.Len, shiftS (val10 s.Sec) dx 0⟩)) := by
  refine ⟨by simp, fun i hi => ?_⟩
  have g := getD_map' (fun s : Slice => (⟨s.Len, shiftS (val10 s.Sec) dx 0⟩ : Slice)) hi
  rw [g]
  refine ⟨rfl, ?_⟩
  have a := h.at hi
  have b := h'.at (i := i) (by simpa using hi)
  rw [g] at b
  simp only at b ⊢
  rw [val10_of a.1] at b ⊢
  unfold shiftS at b ⊢
  by_cases c : (l.getD i default).Sec.Rows = [] ∨ dx < -1200 ∨ 1200 < dx ∨ (0 : Int) < -120 ∨ 120 < (0 : Int)
  · rw [if_pos c] at b; exact absurd rfl b.2.1
  · rw [if_neg c] at b ⊢
    unfold val10 at b ⊢
    rw [show (l.getD i default).Sec.Low + 0 = (l.getD i default).Sec.Low by omega] at b ⊢
    by_cases c2 : chk10 ⟨(l.getD i default).Sec.Low, (l.getD i default).Sec.Rows.map (shS dx)⟩ = 0
    · rw [if_pos c2]
    · rw [if_neg c2] at b; exact absurd rfl b.2.1
theorem moves_L2 (a : Law23_Given) {dx : Int} (hd : -100 ≤ dx ∧ dx ≤ 100) (hl : a.Solid.length ≤ 1000) : law23_EdgeMoves_L2 a dx FUEL 0 [] = some (a.Solid.map (fun s => ⟨s.Len, shiftS (val10 s.Sec) dx 0⟩)) := by
  have k := loop_foldN a.Solid.length (fun n (s : List Slice) i => law23_EdgeMoves_L2 a dx n i s) (fun i s => s ++ [⟨(a.Solid.getD i default).Len, shiftS (val10 (a.Solid.getD i default).Sec) dx 0⟩]) (fun s => s)
    (fun i s => s = (a.Solid.take i).map (fun s => ⟨s.Len, shiftS (val10 s.Sec) dx 0⟩)) 0 (by omega) (by omega)
    (fun n i s hi hs => by
      have tk : a.Solid.take (i + 1) = a.Solid.take i ++ [a.Solid.getD i default] := by rw [List.take_add_one, List.getD_eq_getElem?_getD, List.getElem?_eq_getElem hi]; rfl
      refine ⟨?_, by rw [hs, tk, List.map_append]; rfl⟩
      rw [law23_EdgeMoves_L2, decide_eq_true (by omega), inb_t (by omega) (by omega), Int.toNat_natCast, Shift_eq _ (by omega) (by omega), room_small (by rw [hs]; simp; omega) (by omega), inc_eq (by omega)]
      rfl)
    (fun n s _ => by rw [law23_EdgeMoves_L2, decide_eq_false (by omega)]; rfl) [] rfl
  rw [show ((0 : Nat) : Int) = 0 from rfl, Nat.sub_zero] at k
  rw [k.1, k.2, List.take_length]
def mvD' (dx : Int) (d : Defect) : Defect := ⟨d.Kind, ⟨⟨w64 (d.Box.X.A + dx), w64 (d.Box.X.B + dx)⟩, d.Box.Y, d.Box.Z⟩⟩
theorem moves_L3 (a : Law23_Given) {dx : Int} (hd : -100 ≤ dx ∧ dx ≤ 100) (hl : a.Defects.length ≤ 1000) : law23_EdgeMoves_L3 a dx FUEL 0 [] = some (.inl true) ∨ (law23_EdgeMoves_L3 a dx FUEL 0 [] = some (.inr (a.Defects.map (mvD' dx)))) := by
  have k := loop_runN a.Defects.length (fun n (s : List Defect) i => law23_EdgeMoves_L3 a dx n i s) (fun i s => if (a.Defects.getD i default).Box.X.A < -600 ∨ (a.Defects.getD i default).Box.X.B > 600 then .inl true else .inr (s ++ [mvD' dx (a.Defects.getD i default)])) (fun s => s)
    (fun i s => s = (a.Defects.take i).map (mvD' dx))
    (fun n i s hi hs => by
      have tk : a.Defects.take (i + 1) = a.Defects.take i ++ [a.Defects.getD i default] := by rw [List.take_add_one, List.getD_eq_getElem?_getD, List.getElem?_eq_getElem hi]; rfl
      have e0 : law23_EdgeMoves_L3 a dx (n + 1) (i : Int) s = bif decide ((a.Defects.getD i default).Box.X.A < -600) then some (.inl true) else bif decide ((a.Defects.getD i default).Box.X.B > 600) then some (.inl true) else law23_EdgeMoves_L3 a dx n ((i + 1 : Nat) : Int) (s ++ [mvD' dx (a.Defects.getD i default)]) := by
        rw [law23_EdgeMoves_L3, decide_eq_true (by omega), inb_t (by omega) (by omega)]
        simp only [cond_true, Int.toNat_natCast, law23_EdgeMoves_k4, awake23_true, Option.bind_some, cond_true, inc_eq (show i < 4611686018427387904 by omega)]
        rw [room_small (by rw [hs]; simp; omega) (by omega)]
        cases decide ((a.Defects.getD i default).Box.X.A < -600) <;> rfl
      by_cases c1 : (a.Defects.getD i default).Box.X.A < -600
      · rw [if_pos (.inl c1)]; simp only; rw [e0, decide_eq_true c1]; rfl
      · by_cases c2 : (a.Defects.getD i default).Box.X.B > 600
        · rw [if_pos (.inr c2)]; simp only; rw [e0, decide_eq_false c1, decide_eq_true c2]; rfl
        · rw [if_neg (by omega)]; simp only
          refine ⟨?_, by rw [hs, tk, List.map_append]; rfl⟩
          rw [e0, decide_eq_false c1, decide_eq_false c2]; rfl)
    (fun n s _ => by rw [law23_EdgeMoves_L3, decide_eq_false (by omega)]; rfl) FUEL 0 [] (by rw [FUEL_eq]; omega) (by omega) rfl
  rw [show ((0 : Nat) : Int) = 0 from rfl, Nat.sub_zero] at k
  rw [k]
  cases hr : runN (fun i (s : List Defect) => if (a.Defects.getD i default).Box.X.A < -600 ∨ (a.Defects.getD i default).Box.X.B > 600 then (.inl true : Bool ⊕ List Defect) else .inr (s ++ [mvD' dx (a.Defects.getD i default)])) 0 a.Defects.length [] with
  | inr s =>
    refine .inr ?_
    have := runN_inv _ (fun i s => s = (a.Defects.take i).map (mvD' dx)) a.Defects.length (fun i s s' hi hs e => by
      have tk : a.Defects.take (i + 1) = a.Defects.take i ++ [a.Defects.getD i default] := by rw [List.take_add_one, List.getD_eq_getElem?_getD, List.getElem?_eq_getElem hi]; rfl
      split at e
      · cases e
      · cases e; rw [hs, tk, List.map_append]; rfl) a.Defects.length 0 [] s (by omega) rfl hr
    rw [this, List.take_length]
  | inl b =>
    refine .inl ?_
    have : ∀ (k x : Nat) (s : List Defect), runN (fun i (s : List Defect) => if (a.Defects.getD i default).Box.X.A < -600 ∨ (a.Defects.getD i default).Box.X.B > 600 then (.inl true : Bool ⊕ List Defect) else .inr (s ++ [mvD' dx (a.Defects.getD i default)])) x k s = .inl b → b = true := by
      intro k
      induction k with
      | zero => intro x s h; cases h
      | succ k ih =>
        intro x s h
        unfold runN at h
        split at h
        · rename_i h'
          split at h'
          · cases h'; cases h; rfl
          · cases h'
        · exact ih _ _ h
    rw [this _ _ _ hr]
theorem Small_len {a : Law23_Given} (h : law23_Small a = some true) : a.Solid.length ≤ 6 ∧ a.Defects.length ≤ 70 ∧ a.Products.length ≤ 4 := by
  unfold law23_Small at h
  have k : law23_Small_k1 a true = some false := rfl
  by_cases c1 : ((a.Solid.length : Nat) : Int) > 6
  · rw [decide_eq_true c1, cond_true, k] at h; cases h
  rw [decide_eq_false c1, cond_false] at h
  by_cases c2 : ((a.Defects.length : Nat) : Int) > 70
  · rw [decide_eq_true c2, cond_true, k] at h; cases h
  rw [decide_eq_false c2, cond_false] at h
  by_cases c3 : ((a.Products.length : Nat) : Int) > 4
  · rw [decide_eq_true c3, cond_true, k] at h; cases h
  omega
theorem EdgeMoves_true (a : Law23_Given) (dx : Int) {w w' : Prop} (_ : w) (_ : w') : law23_EdgeMoves a dx = some true := by
  unfold law23_EdgeMoves
  have KT : law23_EdgeMoves_k1 a dx true = some true := by unfold law23_EdgeMoves_k1; rw [awake23_true]; rfl
  obtain ⟨b, e⟩ := Small_ex a
  rw [e]
  simp only [Option.bind_some]
  cases b with
  | false => rw [Bool.not_false, cond_true]; exact KT
  | true =>
    simp only [Bool.not_true, cond_false]
    by_cases c1 : dx < -100
    · rw [decide_eq_true c1, cond_true]; exact KT
    rw [decide_eq_false c1, cond_false]
    by_cases c2 : dx > 100
    · rw [decide_eq_true c2]; exact KT
    rw [decide_eq_false c2]
    have hd : -100 ≤ dx ∧ dx ≤ 100 := by omega
    have sl := Small_len e
    unfold law23_EdgeMoves_k1
    rw [moves_L2 a hd (by omega)]
    simp only [cond_false, Option.bind_some]
    rcases moves_L3 a hd (by omega) with k | k
    · rw [k]; rfl
    rw [k]
    simp only [Option.bind_some, Sum.elim_inr]
    rw [best23_eq, best23_eq]
    simp only [Option.bind_some, awake23_true, law23_EdgeMoves_k5]
    by_cases d1 : (edgeR a.Solid a.Defects a.Products a.Strip a.Saw a.Rates).2.2 = 0
    · by_cases d2 : (edgeR (a.Solid.map (fun s => (⟨s.Len, shiftS (val10 s.Sec) dx 0⟩ : Slice))) (a.Defects.map (mvD' dx)) a.Products ⟨⟨w64 (a.Strip.X.A + dx), w64 (a.Strip.X.B + dx)⟩, a.Strip.Y⟩ a.Saw a.Rates).2.2 = 0
      · obtain ⟨v1, e1⟩ := edgeR_ok d1
        obtain ⟨v2, e2⟩ := edgeR_ok d2
        have vr := v1.vr
        unfold VR at vr
        have er : (⟨⟨w64 (a.Strip.X.A + dx), w64 (a.Strip.X.B + dx)⟩, a.Strip.Y⟩ : Rect) = mvR dx a.Strip := by
          rw [w64_id (n := a.Strip.X.A + dx) (by omega) (by omega), w64_id (n := a.Strip.X.B + dx) (by omega) (by omega)]; rfl
        have ed : a.Defects.map (mvD' dx) = a.Defects.map (mvD dx) := List.map_congr_left (fun d hm => by
          have := (v1.dd d hm)
          have b1 := this.x
          unfold mvD' mvD mvX
          rw [w64_id (n := d.Box.X.A + dx) (by omega) (by omega), w64_id (n := d.Box.X.B + dx) (by omega) (by omega)])
        rw [d1, d2, e1, e2, er, ed, (mv_of hd v1.sol v2.sol).line]
        simp
      · rw [d1, show ((edgeR (a.Solid.map (fun s => (⟨s.Len, shiftS (val10 s.Sec) dx 0⟩ : Slice))) (a.Defects.map (mvD' dx)) a.Products ⟨⟨w64 (a.Strip.X.A + dx), w64 (a.Strip.X.B + dx)⟩, a.Strip.Y⟩ a.Saw a.Rates).2.2 != 0) = true by rw [bne_iff_ne]; exact d2]; rfl
    · rw [show ((edgeR a.Solid a.Defects a.Products a.Strip a.Saw a.Rates).2.2 != 0) = true by rw [bne_iff_ne]; exact d1]; rfl
end Saw
end Go.SL
