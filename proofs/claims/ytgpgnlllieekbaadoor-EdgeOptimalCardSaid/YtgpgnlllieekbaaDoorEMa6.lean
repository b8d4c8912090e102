/- Edge's plain mathematics, part 30: the laws EdgeMore and EdgeMoves. -/
import Derived.Test.YtgpgnlllieekbaaDoorEMa5
set_option linter.unusedVariables false
set_option linter.unusedSimpArgs false
namespace Go.SL
namespace Saw

theorem edgeR_ok {l : List Slice} {ds : List Defect} {ps : List Product} {r : Rect} {w : Saw} {t : Rates} (h : (edgeR l ds ps r w t).2.2 = 0) : VE l ds ps r w t ∧ (edgeR l ds ps r w t).2.1 = (bst (lineS l ds ps r w t) 0).value := by
  unfold edgeR at h ⊢
  by_cases c : chkE l ds ps r w t = 0
  · rw [if_pos c] at h ⊢
    refine ⟨chkE_zero.1 c, ?_⟩
    unfold edgeB at h ⊢
    by_cases c2 : (rowN 2 (lineS l ds ps r w t).Kerf r.X (edgePts ps r (lineS l ds ps r w t))).length ≤ 127
    · rw [if_pos c2]
    · rw [if_neg c2] at h; exact absurd h (by decide)
  · rw [if_neg c] at h; exact absurd h c
theorem best23_eq (a : Law23_Given) : law23_best a = some (edgeR a.Solid a.Defects a.Products a.Strip a.Saw a.Rates) := by
  unfold law23_best
  rw [edgeBest_eq]; rfl
/-! ### More products -/
theorem sizes_more {ps : List Product} {p : Product} (h1 : chk19 ps = 0) (h2 : chk19 (ps ++ [p]) = 0) (z : Int) : ∃ t1 t2, sizes (ps ++ [p]) z = ((sizes ps z).1 ++ t1, (sizes ps z).2 ++ t2) := by
  unfold sizes
  rw [if_neg (fun q => q h2), if_neg (fun q => q h1), List.length_append, List.length_singleton, foldN_succ, foldN_congr (g := sizStep ps z) (fun i _ hi s => by
    have e : (ps ++ [p]).getD i default = ps.getD i default := by rw [List.getD_eq_getElem?_getD, List.getElem?_append_left (by omega), List.getD_eq_getElem?_getD]
    unfold sizStep
    rw [e])]
  generalize foldN (sizStep ps z) 0 ps.length ([], []) = s
  unfold sizStep
  cases (green ((ps ++ [p]).getD (0 + ps.length) default)).1 == z with
  | true => exact ⟨_, _, rfl⟩
  | false => cases (green ((ps ++ [p]).getD (0 + ps.length) default)).2 == z with
    | true => exact ⟨_, _, rfl⟩
    | false => exact ⟨[], [], by simp⟩
theorem getD_app_l {α : Type} [Inhabited α] {l t : List α} {i : Nat} (h : i < l.length) : (l ++ t).getD i default = l.getD i default := by
  rw [List.getD_eq_getElem?_getD, List.getElem?_append_left h, List.getD_eq_getElem?_getD]
theorem edge_more {l : List Slice} {ds : List Defect} {ps : List Product} {p : Product} {r : Rect} {w : Saw} {t : Rates} (h : VE l ds ps r w t) (h' : VE l ds (ps ++ [p]) r w t) : (bst (lineS l ds ps r w t) 0).value ≤ (bst (lineS l ds (ps ++ [p]) r w t) 0).value := by
  have va := lineS_VL h
  have vb := lineS_VL h'
  obtain ⟨t1, t2, e⟩ := sizes_more h.pr h'.pr (r.Y.B - r.Y.A)
  have sl2 := sizes_len2 (ps := ps) (r.Y.B - r.Y.A)
  have em : lineS l ds (ps ++ [p]) r w t = more (lineS l ds ps r w t) (sizes (ps ++ [p]) (r.Y.B - r.Y.A)).1 (gains l ds (ps ++ [p]) r w t (r.Y.B - r.Y.A)) := rfl
  rw [em] at vb ⊢
  refine (bst_more va vb ?_ (fun i hi => ?_) _ 0 (Nat.le_refl _) (by have := va.len; omega)).1
  · show (sizes ps (r.Y.B - r.Y.A)).1.length ≤ _
    rw [e]; simp
  · have hi' : i < (sizes ps (r.Y.B - r.Y.A)).1.length := hi
    have e1 : (sizes (ps ++ [p]) (r.Y.B - r.Y.A)).1.getD i default = (sizes ps (r.Y.B - r.Y.A)).1.getD i default := by rw [e]; exact getD_app_l hi'
    have e2 : (sizes (ps ++ [p]) (r.Y.B - r.Y.A)).2.getD i default = (sizes ps (r.Y.B - r.Y.A)).2.getD i default := by rw [e]; exact getD_app_l (by omega)
    refine ⟨e1, ?_⟩
    show (gains l ds (ps ++ [p]) r w t (r.Y.B - r.Y.A)).getD i default = (gains l ds ps r w t (r.Y.B - r.Y.A)).getD i default
    unfold gains
    rw [getD_range _ (by rw [e]; simp; omega), getD_range _ hi', e1, e2]
    obtain ⟨_, _, k, hk, ek, _⟩ := sizes_at h.pr (r.Y.B - r.Y.A) hi'
    rw [ek, Int.toNat_natCast, getD_app_l hk]
theorem EdgeMore_true' (a : Law23_Given) (p : Product) (h : a.Products.length ≤ 1048576) : law23_EdgeMore a p = some true := by
  unfold law23_EdgeMore
  rw [room_t (by omega), room_t (by omega)]
  simp only [cond_true]
  have K : ∀ b, law23_EdgeMore_k1 a p b = some true := fun b => by
    unfold law23_EdgeMore_k1
    cases b with
    | true => rw [awake23_true]; rfl
    | false =>
      rw [best23_eq, best23_eq]
      simp only [cond_false, Option.bind_some, awake23_true, law23_EdgeMore_k2, List.nil_append]
      by_cases c1 : (edgeR a.Solid a.Defects a.Products a.Strip a.Saw a.Rates).2.2 = 0
      · by_cases c2 : (edgeR a.Solid a.Defects (a.Products ++ [p]) a.Strip a.Saw a.Rates).2.2 = 0
        · obtain ⟨v1, e1⟩ := edgeR_ok c1
          obtain ⟨v2, e2⟩ := edgeR_ok c2
          rw [c1, c2, e1, e2, decide_eq_true (edge_more v1 v2)]
          rfl
        · rw [c1, show ((edgeR a.Solid a.Defects (a.Products ++ [p]) a.Strip a.Saw a.Rates).2.2 != 0) = true by rw [bne_iff_ne]; exact c2]; rfl
      · rw [show ((edgeR a.Solid a.Defects a.Products a.Strip a.Saw a.Rates).2.2 != 0) = true by rw [bne_iff_ne]; exact c1]; rfl
  obtain ⟨b1, e1⟩ := Small_ex a
  obtain ⟨b2, e2⟩ := Small_ex (Law23_Given.mk a.Solid a.Defects ((([] : List Product) ++ a.Products) ++ ([p] : List Product)) a.Strip a.Saw a.Rates)
  rw [e1, e2]
  simp only [Option.bind_some, K]
  cases b1 <;> rfl
theorem EdgeMore_upto (a : Law23_Given) (p : Product) {w1 w2 w4 w5 w6 : Prop} (_ : w1) (_ : w2) (h : a.Products.length ≤ 1048576) (_ : w4) (_ : w5) (_ : w6) : law23_EdgeMore a p = some true := EdgeMore_true' a p h
/-! ### A log moved -/
theorem mv_of {dx : Int} (hd : -100 ≤ dx ∧ dx ≤ 100) {l : List Slice} (h : VSol l) (h' : VSol (l.map (fun s => ⟨s.Len, shiftS (val10 s.Sec) dx 0⟩))) : Mv dx l (l.map (fun s => ⟨s.Len, shiftS (val10 s.Sec) dx 0⟩)) := by
  refine ⟨by simp, fun i hi => ?_⟩
  have g := getD_map' (fun s : Slice => (⟨s.Len, shiftS (val10 s.Sec) dx 0⟩ : Slice)) hi
  rw [g]
  refine ⟨rfl, ?_⟩
  have a := h.at hi
  have b := h'.at (i := i) (by simpa using hi)
  rw [g] at b
  simp only at b ⊢
  rw [val10_of a.1] at b ⊢
  unfold shiftS at b ⊢
  by_cases c : (l.getD i default).Sec.Rows = [] ∨ dx < -1200 ∨ 1200 < dx ∨ (0 : Int) < -120 ∨ 120 < (0 : Int)
  · rw [if_pos c] at b; exact absurd rfl b.2.1
  · rw [if_neg c] at b ⊢
    unfold val10 at b ⊢
    rw [show (l.getD i default).Sec.Low + 0 = (l.getD i default).Sec.Low by omega] at b ⊢
    by_cases c2 : chk10 ⟨(l.getD i default).Sec.Low, (l.getD i default).Sec.Rows.map (shS dx)⟩ = 0
    · rw [if_pos c2]
    · rw [if_neg c2] at b; exact absurd rfl b.2.1
theorem moves_L2 (a : Law23_Given) {dx : Int} (hd : -100 ≤ dx ∧ dx ≤ 100) (hl : a.Solid.length ≤ 1000) : law23_EdgeMoves_L2 a dx FUEL 0 [] = some (a.Solid.map (fun s => ⟨s.Len, shiftS (val10 s.Sec) dx 0⟩)) := by
  have k := loop_foldN a.Solid.length (fun n (s : List Slice) i => law23_EdgeMoves_L2 a dx n i s) (fun i s => s ++ [⟨(a.Solid.getD i default).Len, shiftS (val10 (a.Solid.getD i default).Sec) dx 0⟩]) (fun s => s)
    (fun i s => s = (a.Solid.take i).map (fun s => ⟨s.Len, shiftS (val10 s.Sec) dx 0⟩)) 0 (by omega) (by omega)
    (fun n i s hi hs => by
      have tk : a.Solid.take (i + 1) = a.Solid.take i ++ [a.Solid.getD i default] := by rw [List.take_add_one, List.getD_eq_getElem?_getD, List.getElem?_eq_getElem hi]; rfl
      refine ⟨?_, by rw [hs, tk, List.map_append]; rfl⟩
      rw [law23_EdgeMoves_L2, decide_eq_true (by omega), inb_t (by omega) (by omega), Int.toNat_natCast, Shift_eq _ (by omega) (by omega), room_small (by rw [hs]; simp; omega) (by omega), inc_eq (by omega)]
      rfl)
    (fun n s _ => by rw [law23_EdgeMoves_L2, decide_eq_false (by omega)]; rfl) [] rfl
  rw [show ((0 : Nat) : Int) = 0 from rfl, Nat.sub_zero] at k
  rw [k.1, k.2, List.take_length]
def mvD' (dx : Int) (d : Defect) : Defect := ⟨d.Kind, ⟨⟨w64 (d.Box.X.A + dx), w64 (d.Box.X.B + dx)⟩, d.Box.Y, d.Box.Z⟩⟩
theorem moves_L3 (a : Law23_Given) {dx : Int} (hd : -100 ≤ dx ∧ dx ≤ 100) (hl : a.Defects.length ≤ 1000) : law23_EdgeMoves_L3 a dx FUEL 0 [] = some (.inl true) ∨ (law23_EdgeMoves_L3 a dx FUEL 0 [] = some (.inr (a.Defects.map (mvD' dx)))) := by
  have k := loop_runN a.Defects.length (fun n (s : List Defect) i => law23_EdgeMoves_L3 a dx n i s) (fun i s => if (a.Defects.getD i default).Box.X.A < -600 ∨ (a.Defects.getD i default).Box.X.B > 600 then .inl true else .inr (s ++ [mvD' dx (a.Defects.getD i default)])) (fun s => s)
    (fun i s => s = (a.Defects.take i).map (mvD' dx))
    (fun n i s hi hs => by
      have tk : a.Defects.take (i + 1) = a.Defects.take i ++ [a.Defects.getD i default] := by rw [List.take_add_one, List.getD_eq_getElem?_getD, List.getElem?_eq_getElem hi]; rfl
      have e0 : law23_EdgeMoves_L3 a dx (n + 1) (i : Int) s = bif decide ((a.Defects.getD i default).Box.X.A < -600) then some (.inl true) else bif decide ((a.Defects.getD i default).Box.X.B > 600) then some (.inl true) else law23_EdgeMoves_L3 a dx n ((i + 1 : Nat) : Int) (s ++ [mvD' dx (a.Defects.getD i default)]) := by
        rw [law23_EdgeMoves_L3, decide_eq_true (by omega), inb_t (by omega) (by omega)]
        simp only [cond_true, Int.toNat_natCast, law23_EdgeMoves_k4, awake23_true, Option.bind_some, cond_true, inc_eq (show i < 4611686018427387904 by omega)]
        rw [room_small (by rw [hs]; simp; omega) (by omega)]
        cases decide ((a.Defects.getD i default).Box.X.A < -600) <;> rfl
      by_cases c1 : (a.Defects.getD i default).Box.X.A < -600
      · rw [if_pos (.inl c1)]; simp only; rw [e0, decide_eq_true c1]; rfl
      · by_cases c2 : (a.Defects.getD i default).Box.X.B > 600
        · rw [if_pos (.inr c2)]; simp only; rw [e0, decide_eq_false c1, decide_eq_true c2]; rfl
        · rw [if_neg (by omega)]; simp only
          refine ⟨?_, by rw [hs, tk, List.map_append]; rfl⟩
          rw [e0, decide_eq_false c1, decide_eq_false c2]; rfl)
    (fun n s _ => by rw [law23_EdgeMoves_L3, decide_eq_false (by omega)]; rfl) FUEL 0 [] (by rw [FUEL_eq]; omega) (by omega) rfl
  rw [show ((0 : Nat) : Int) = 0 from rfl, Nat.sub_zero] at k
  rw [k]
  cases hr : runN (fun i (s : List Defect) => if (a.Defects.getD i default).Box.X.A < -600 ∨ (a.Defects.getD i default).Box.X.B > 600 then (.inl true : Bool ⊕ List Defect) else .inr (s ++ [mvD' dx (a.Defects.getD i default)])) 0 a.Defects.length [] with
  | inr s =>
    refine .inr ?_
    have := runN_inv _ (fun i s => s = (a.Defects.take i).map (mvD' dx)) a.Defects.length (fun i s s' hi hs e => by
      have tk : a.Defects.take (i + 1) = a.Defects.take i ++ [a.Defects.getD i default] := by rw [List.take_add_one, List.getD_eq_getElem?_getD, List.getElem?_eq_getElem hi]; rfl
      split at e
      · cases e
      · cases e; rw [hs, tk, List.map_append]; rfl) a.Defects.length 0 [] s (by omega) rfl hr
    rw [this, List.take_length]
  | inl b =>
    refine .inl ?_
    have : ∀ (k x : Nat) (s : List Defect), runN (fun i (s : List Defect) => if (a.Defects.getD i default).Box.X.A < -600 ∨ (a.Defects.getD i default).Box.X.B > 600 then (.inl true : Bool ⊕ List Defect) else .inr (s ++ [mvD' dx (a.Defects.getD i default)])) x k s = .inl b → b = true := by
      intro k
      induction k with
      | zero => intro x s h; cases h
      | succ k ih =>
        intro x s h
        unfold runN at h
        split at h
        · rename_i h'
          split at h'
          · cases h'; cases h; rfl
          · cases h'
        · exact ih _ _ h
    rw [this _ _ _ hr]
theorem Small_len {a : Law23_Given} (h : law23_Small a = some true) : a.Solid.length ≤ 6 ∧ a.Defects.length ≤ 70 ∧ a.Products.length ≤ 4 := by
  unfold law23_Small at h
  have k : law23_Small_k1 a true = some false := rfl
  by_cases c1 : ((a.Solid.length : Nat) : Int) > 6
  · rw [decide_eq_true c1, cond_true, k] at h; cases h
  rw [decide_eq_false c1, cond_false] at h
  by_cases c2 : ((a.Defects.length : Nat) : Int) > 70
  · rw [decide_eq_true c2, cond_true, k] at h; cases h
  rw [decide_eq_false c2, cond_false] at h
  by_cases c3 : ((a.Products.length : Nat) : Int) > 4
  · rw [decide_eq_true c3, cond_true, k] at h; cases h
  omega
theorem EdgeMoves_true (a : Law23_Given) (dx : Int) {w w' : Prop} (_ : w) (_ : w') : law23_EdgeMoves a dx = some true := by
  unfold law23_EdgeMoves
  have KT : law23_EdgeMoves_k1 a dx true = some true := by unfold law23_EdgeMoves_k1; rw [awake23_true]; rfl
  obtain ⟨b, e⟩ := Small_ex a
  rw [e]
  simp only [Option.bind_some]
  cases b with
  | false => rw [Bool.not_false, cond_true]; exact KT
  | true =>
    simp only [Bool.not_true, cond_false]
    by_cases c1 : dx < -100
    · rw [decide_eq_true c1, cond_true]; exact KT
    rw [decide_eq_false c1, cond_false]
    by_cases c2 : dx > 100
    · rw [decide_eq_true c2]; exact KT
    rw [decide_eq_false c2]
    have hd : -100 ≤ dx ∧ dx ≤ 100 := by omega
    have sl := Small_len e
    unfold law23_EdgeMoves_k1
    rw [moves_L2 a hd (by omega)]
    simp only [cond_false, Option.bind_some]
    rcases moves_L3 a hd (by omega) with k | k
    · rw [k]; rfl
    rw [k]
    simp only [Option.bind_some, Sum.elim_inr]
    rw [best23_eq, best23_eq]
    simp only [Option.bind_some, awake23_true, law23_EdgeMoves_k5]
    by_cases d1 : (edgeR a.Solid a.Defects a.Products a.Strip a.Saw a.Rates).2.2 = 0
    · by_cases d2 : (edgeR (a.Solid.map (fun s => (⟨s.Len, shiftS (val10 s.Sec) dx 0⟩ : Slice))) (a.Defects.map (mvD' dx)) a.Products ⟨⟨w64 (a.Strip.X.A + dx), w64 (a.Strip.X.B + dx)⟩, a.Strip.Y⟩ a.Saw a.Rates).2.2 = 0
      · obtain ⟨v1, e1⟩ := edgeR_ok d1
        obtain ⟨v2, e2⟩ := edgeR_ok d2
        have vr := v1.vr
        unfold VR at vr
        have er : (⟨⟨w64 (a.Strip.X.A + dx), w64 (a.Strip.X.B + dx)⟩, a.Strip.Y⟩ : Rect) = mvR dx a.Strip := by
          rw [w64_id (n := a.Strip.X.A + dx) (by omega) (by omega), w64_id (n := a.Strip.X.B + dx) (by omega) (by omega)]; rfl
        have ed : a.Defects.map (mvD' dx) = a.Defects.map (mvD dx) := List.map_congr_left (fun d hm => by
          have := (v1.dd d hm)
          have b1 := this.x
          unfold mvD' mvD mvX
          rw [w64_id (n := d.Box.X.A + dx) (by omega) (by omega), w64_id (n := d.Box.X.B + dx) (by omega) (by omega)])
        rw [d1, d2, e1, e2, er, ed, (mv_of hd v1.sol v2.sol).line]
        simp
      · rw [d1, show ((edgeR (a.Solid.map (fun s => (⟨s.Len, shiftS (val10 s.Sec) dx 0⟩ : Slice))) (a.Defects.map (mvD' dx)) a.Products ⟨⟨w64 (a.Strip.X.A + dx), w64 (a.Strip.X.B + dx)⟩, a.Strip.Y⟩ a.Saw a.Rates).2.2 != 0) = true by rw [bne_iff_ne]; exact d2]; rfl
    · rw [show ((edgeR a.Solid a.Defects a.Products a.Strip a.Saw a.Rates).2.2 != 0) = true by rw [bne_iff_ne]; exact d1]; rfl
end Saw
end Go.SL

namespace Go.SL
theorem w64_mod (n : Int) : (w64 n) % 18446744073709551616 = n % 18446744073709551616 := by
  unfold w64 IntKind.wrap
  simp [IntKind.bits, IntKind.signed, Int.bmod]
  split <;> omega
theorem w64_eq_of {m n : Int} (h : m % 18446744073709551616 = n % 18446744073709551616) : w64 m = w64 n := by
  have a := w64_mod m
  have b := w64_mod n
  have c : ∀ n : Int, -9223372036854775808 ≤ w64 n ∧ w64 n ≤ 9223372036854775807 := fun n => by
    unfold w64 IntKind.wrap
    simp [IntKind.bits, IntKind.signed, Int.bmod]
    split <;> omega
  have c1 := c m
  have c2 := c n
  omega
theorem w64_addl (a b : Int) : w64 (w64 a + b) = w64 (a + b) := w64_eq_of (by have := w64_mod a; omega)
theorem w64_addr (a b : Int) : w64 (a + w64 b) = w64 (a + b) := w64_eq_of (by have := w64_mod b; omega)
namespace Saw

def tot (c : List Int) (l : List Span) : Int := (l.map (fun s => pre c s.B.toNat - pre c s.A.toNat)).sum
def okSp (N : Int) (s : Span) : Prop := 0 ≤ s.A ∧ s.A ≤ s.B ∧ s.B ≤ N
theorem tot_nil (c : List Int) : tot c [] = 0 := rfl
theorem tot_app (c : List Int) (l : List Span) (s : Span) : tot c (l ++ [s]) = tot c l + (pre c s.B.toNat - pre c s.A.toNat) := by simp [tot]
theorem getD_cut {c : List Int} {a b j : Nat} (hb : b ≤ c.length) (hj : j < b - a) : ((c.drop a).take (b - a)).getD j default = c.getD (a + j) default := by
  rw [List.getD_eq_getElem?_getD, List.getElem?_take, if_pos hj, List.getElem?_drop, List.getD_eq_getElem?_getD]
theorem pre_add (c : List Int) (a k : Nat) : pre c (a + k) = pre c a + sumN k (fun j => c.getD (a + j) default) := by unfold pre; exact sumN_split a k _
theorem total_eq {c : List Int} {l : List Span} (hc : c.length ≤ 1000000) (hl : l.length ≤ 1000000) (h : ∀ i, i < l.length → okSp c.length (l.getD i default)) : cutting_total c l = some (w64 (tot c l)) := by
  unfold cutting_total
  have k := loop_foldN l.length (fun n (s : Int) i => cutting_total_L1 c l n s i) (fun i s => w64 (s + (pre c (l.getD i default).B.toNat - pre c (l.getD i default).A.toNat))) (fun s => s)
    (fun i s => s = w64 (tot c (l.take i))) 0 (by omega) (by omega)
    (fun n i s hi hs => by
      obtain ⟨o1, o2, o3⟩ := h i hi
      have tk : l.take (i + 1) = l.take i ++ [l.getD i default] := by rw [List.take_add_one, List.getD_eq_getElem?_getD, List.getElem?_eq_getElem hi]; rfl
      refine ⟨?_, by rw [hs, w64_addl, tk, tot_app]⟩
      generalize hx : l.getD i default = x at *
      have hA : x.A.toNat ≤ x.B.toNat := by omega
      have hB : x.B.toNat ≤ c.length := by omega
      have ln : ((c.drop x.A.toNat).take (x.B.toNat - x.A.toNat)).length = x.B.toNat - x.A.toNat := by simp; omega
      have k2 := loop_foldN (x.B.toNat - x.A.toNat) (fun n (s : Int) j => cutting_total_L2 c l (i : Int) n s j) (fun j s => w64 (s + c.getD (x.A.toNat + j) default)) (fun s => s)
        (fun j s' => s' = w64 (s + sumN j (fun j => c.getD (x.A.toNat + j) default))) 0 (by omega) (by omega)
        (fun n j s' hj hs' => by
          refine ⟨?_, by rw [hs', w64_addl, Int.add_assoc]; rfl⟩
          rw [cutting_total_L2]
          simp only [Int.toNat_natCast, hx, ln]
          rw [decide_eq_true (by omega), inb_t (by omega) (by omega), getD_cut hB hj, inc_eq (by omega)]
          rfl)
        (fun n s' _ => by
          rw [cutting_total_L2]
          simp only [Int.toNat_natCast, hx, ln]
          rw [decide_eq_false (by omega)]; rfl) s (by rw [hs]; simp [sumN]; exact (w64_id' _).symm)
      rw [show ((0 : Nat) : Int) = 0 from rfl, Nat.sub_zero] at k2
      have sk : slOk x.A x.B c.length = true := by unfold slOk; exact decide_eq_true (by omega)
      rw [cutting_total_L1, decide_eq_true (by omega), inb_t (by omega) (by omega)]
      simp only [Int.toNat_natCast, hx, sk, cond_true, k2.1, Option.bind_some, inc_eq (show i < 4611686018427387904 by omega)]
      rw [k2.2]
      have := pre_add c x.A.toNat (x.B.toNat - x.A.toNat)
      rw [show x.A.toNat + (x.B.toNat - x.A.toNat) = x.B.toNat by omega] at this
      rw [this]
      congr 2
      omega)
    (fun n s _ => by rw [cutting_total_L1, decide_eq_false (by omega)]; rfl) 0 rfl
  rw [show ((0 : Nat) : Int) = 0 from rfl, Nat.sub_zero] at k
  rw [k.1, k.2, List.take_length]; rfl
where
  w64_id' (n : Int) : w64 (w64 n) = w64 n := w64_eq_of (w64_mod n)
def addS (l : List Span) (a b : Int) : List Span := if a ≥ b then l else l ++ [⟨a, b⟩]
theorem addS_eq {l : List Span} (hl : l.length ≤ 100000) (a b : Int) : cutting_add_s1 a b l = some (addS l a b, addS l a b) := by
  unfold cutting_add_s1 addS
  by_cases c : a ≥ b
  · rw [decide_eq_true c, if_pos c]; rfl
  · rw [decide_eq_false c, if_neg c, room_small (by omega) (by omega)]; rfl
theorem addS_tot (c : List Int) (l : List Span) {a b : Int} (h : a ≤ b) : tot c (addS l a b) = tot c l + (pre c b.toNat - pre c a.toNat) := by
  unfold addS
  by_cases q : a ≥ b
  · rw [if_pos q, show a = b by omega]; omega
  · rw [if_neg q, tot_app]
theorem addS_len (l : List Span) (a b : Int) : (addS l a b).length ≤ l.length + 1 := by
  unfold addS; split <;> simp
theorem addS_ok {N : Int} {l : List Span} {a b : Int} (h : ∀ s ∈ l, okSp N s) (h0 : a < b → 0 ≤ a ∧ b ≤ N) : ∀ s ∈ addS l a b, okSp N s := by
  unfold addS
  split
  · exact h
  · intro s hs
    simp only [List.mem_append, List.mem_singleton] at hs
    rcases hs with hs | rfl
    · exact h s hs
    · have := h0 (by omega); exact ⟨this.1, by simp only; omega, this.2⟩
/-- A piece that may be cut next. -/
structure Leg (a : Line) (e : Int) (x : Piece) (i q : Nat) : Prop where
  eq : x = ⟨(i : Int), (q : Int)⟩
  hi : i < a.Sizes.length
  hq : ¬ ((q : Int) + szAt a i > a.Len)
  e0 : 0 ≤ e
  wh : (q : Int) = e ∨ ∃ k, k < placesN a e.toNat ∧ q = placeN a e.toNat k
  hg : ¬ gnAt a i q < 0
theorem permitted_ex {a : Line} (h : VL a) {e : Int} (he : e = -1 ∨ (0 ≤ e ∧ e ≤ a.Len)) (x : Piece) : ∃ n, cutting_permitted a e x = some n ∧ (n = 0 → ∃ i q, Leg a e x i q) := by
  have ln := h.len
  have kf := h.kerf
  have pt := h.pitch
  unfold cutting_permitted
  by_cases c1 : x.Size < 0
  · rw [decide_eq_true c1]; exact ⟨9, rfl, fun q => by cases q⟩
  rw [decide_eq_false c1]
  simp only [cond_false]
  unfold cutting_permitted_k1
  by_cases c2 : x.Size ≥ ((a.Sizes.length : Nat) : Int)
  · rw [decide_eq_true c2]; exact ⟨9, rfl, fun q => by cases q⟩
  rw [decide_eq_false c2]
  simp only [cond_false]
  obtain ⟨i, hi⟩ : ∃ i : Nat, x.Size = (i : Int) := ⟨x.Size.toNat, by omega⟩
  have hi' : i < a.Sizes.length := by omega
  have sz := h.sz i hi'
  unfold cutting_permitted_k2
  by_cases c3 : x.At < 0
  · rw [decide_eq_true c3]; exact ⟨20, rfl, fun q => by cases q⟩
  rw [decide_eq_false c3, inb_t (by omega) (by omega)]
  simp only [cond_false, cond_true, hi, Int.toNat_natCast]
  rw [w64_id (n := a.Len - a.Sizes.getD i default) (by omega) (by omega)]
  by_cases c4 : x.At > a.Len - a.Sizes.getD i default
  · rw [decide_eq_true c4]; exact ⟨20, rfl, fun q => by cases q⟩
  rw [decide_eq_false c4]
  simp only [cond_false]
  obtain ⟨q, hq⟩ : ∃ q : Nat, x.At = (q : Int) := ⟨x.At.toNat, by omega⟩
  have gr := h.gr i hi'
  have gl := h.gl
  have k3 : ∀ b, ∃ n, cutting_permitted_k3 a x b = some n ∧ (n = 0 → b = false ∧ ¬ gnAt a i q < 0) := fun b => by
    unfold cutting_permitted_k3
    cases b with
    | true => exact ⟨11, rfl, fun q => by cases q⟩
    | false =>
      simp only [cond_false, hi, hq, Int.toNat_natCast]
      rw [inb_t (by omega) (by omega), inb_t (by omega) (by omega)]
      simp only [cond_true]
      by_cases c : (a.Gain.getD i default).getD q default < 0
      · rw [decide_eq_true c]; exact ⟨14, rfl, fun q => by cases q⟩
      · rw [decide_eq_false c]; exact ⟨0, rfl, fun _ => ⟨by first | rfl | trivial, c⟩⟩
  by_cases c5 : e < 0
  · rw [decide_eq_true c5]
    obtain ⟨n, h1, h2⟩ := k3 true
    exact ⟨n, h1, fun q => by cases (h2 q).1⟩
  rw [decide_eq_false c5]
  simp only [cond_false]
  have ex : x = ⟨(i : Int), (q : Int)⟩ := by cases x; simp only at hi hq; rw [hi, hq]
  by_cases c6 : x.At = e
  · rw [show (x.At != e) = false by rw [bne_eq_false_iff_eq]; exact c6]
    obtain ⟨n, h1, h2⟩ := k3 false
    exact ⟨n, h1, fun z => ⟨i, q, ex, hi', by unfold szAt; omega, by omega, .inl (by omega), (h2 z).2⟩⟩
  rw [show (x.At != e) = true by rw [bne_iff_ne]; exact c6, w64_id (n := x.At - a.Kerf) (by omega) (by omega), w64_id (n := x.At - a.Kerf - e) (by omega) (by omega), nz_t (by omega)]
  simp only [cond_true]
  by_cases c7 : x.At - a.Kerf - e < a.Pitch
  · rw [decide_eq_true c7]
    obtain ⟨n, h1, h2⟩ := k3 true
    exact ⟨n, h1, fun q => by cases (h2 q).1⟩
  rw [decide_eq_false c7]
  simp only [cond_false]
  obtain ⟨n, h1, h2⟩ := k3 (Int.tmod (x.At - a.Kerf - e) a.Pitch != 0)
  refine ⟨n, h1, fun z => ⟨i, q, ex, hi', by unfold szAt; omega, by omega, .inr ?_, (h2 z).2⟩⟩
  have m0 : Int.tmod (x.At - a.Kerf - e) a.Pitch = 0 := by have := (h2 z).1; rw [bne_eq_false_iff_eq] at this; exact this
  rw [Int.tmod_eq_emod_of_nonneg (by omega)] at m0
  have dv := Int.mul_ediv_add_emod (x.At - a.Kerf - e) a.Pitch
  rw [m0] at dv
  have d1 : 1 ≤ (x.At - a.Kerf - e) / a.Pitch := Int.le_ediv_of_mul_le (by omega) (by omega)
  have pe : q = placeN a e.toNat ((x.At - a.Kerf - e) / a.Pitch - 1).toNat := by
    unfold placeN
    rw [show ((x.At - a.Kerf - e) / a.Pitch - 1).toNat + 1 = ((x.At - a.Kerf - e) / a.Pitch).toNat by omega]
    have : ((((x.At - a.Kerf - e) / a.Pitch).toNat * a.Pitch.toNat : Nat) : Int) = x.At - a.Kerf - e := by
      rw [Int.natCast_mul, Int.toNat_of_nonneg (by omega), Int.toNat_of_nonneg (by omega), Int.mul_comm]; omega
    omega
  refine ⟨_, ?_, pe⟩
  rw [places_lt h, ← pe]; omega
end Saw
end Go.SL

namespace Go.SL
namespace Saw

def gnOf (a : Line) (p : List Piece) (j : Nat) : Int := gnAt a (p.getD j default).Size.toNat (p.getD j default).At.toNat
/-- What is done when i pieces are cut: dust, chips, edge. -/
structure CI (a : Line) (p : List Piece) (i : Nat) (s : List Span × List Span × Int) : Prop where
  l1 : s.1.length ≤ 2 * i
  l2 : s.2.1.length ≤ i
  o1 : ∀ x ∈ s.1, okSp a.Len x
  o2 : ∀ x ∈ s.2.1, okSp a.Len x
  ed : s.2.2 = -1 ∨ (0 ≤ s.2.2 ∧ s.2.2 ≤ a.Len)
  pc : ∀ j, j < i → ∃ k q : Nat, p.getD j default = ⟨(k : Int), (q : Int)⟩ ∧ k < a.Sizes.length ∧ ¬ ((q : Int) + szAt a k > a.Len)
  up : tot a.Dust s.1 + tot a.Chip s.2.1 + sumN i (gnOf a p) + (if s.2.2 < 0 then 0 else (bst a s.2.2.toNat).value) ≤ (bst a 0).value
  lo : -(1125899906842624 * (if s.2.2 < 0 then a.Len else s.2.2)) ≤ tot a.Dust s.1 + tot a.Chip s.2.1 + sumN i (gnOf a p)
def cutStep (a : Line) (p : List Piece) (i : Nat) (s : List Span × List Span × Int) : (List Span × List Span × Int) ⊕ (List Span × List Span × Int) :=
  match cutting_permitted a s.2.2 (p.getD i default) with
  | none => .inr s
  | some n => if n ≠ 0 then .inl ([], [], n) else
    let x := p.getD i default
    let e := x.At + a.Sizes.getD x.Size.toNat default
    let b := if e = a.Len then -1 else imin (e + a.Kerf) a.Len
    .inr (addS (if x.At > s.2.2 then addS s.1 (x.At - a.Kerf) x.At else s.1) e b, (if x.At > s.2.2 then addS s.2.1 s.2.2 (x.At - a.Kerf) else s.2.1), b)
theorem diff_lo {a : Line} {c : List Int} (h : ∀ j, j < c.length → okN (c.getD j default)) {x y : Int} (h0 : 0 ≤ x) (h1 : x ≤ y) (h2 : y ≤ (c.length : Int)) : -(1125899906842624 * (y - x)) ≤ pre c y.toNat - pre c x.toNat := by
  have := pre_diff h (i := x.toNat) (k := y.toNat - x.toNat) (by omega)
  rw [show x.toNat + (y.toNat - x.toNat) = y.toNat by omega] at this
  omega
theorem Cuts_step {a : Line} (h : VL a) {p : List Piece} (hp : p.length ≤ 1000) {n i : Nat} {s : List Span × List Span × Int} (hi : i < p.length) (c : CI a p i s) :
    match cutStep a p i s with
    | .inl r => cutting_Cuts_L1 a p (n + 1) s.1 s.2.1 s.2.2 (i : Int) = some (.inl r) ∧ r.2.2 ≠ 0
    | .inr s' => cutting_Cuts_L1 a p (n + 1) s.1 s.2.1 s.2.2 (i : Int) = cutting_Cuts_L1 a p n s'.1 s'.2.1 s'.2.2 ((i + 1 : Nat) : Int) ∧ CI a p (i + 1) s' := by
  obtain ⟨du, ch, e⟩ := s
  obtain ⟨l1, l2, o1, o2, ed, pc, up, lo⟩ := c
  simp only at l1 l2 o1 o2 ed up lo
  obtain ⟨m, hm, hl⟩ := permitted_ex h ed (p.getD i default)
  unfold cutStep
  simp only
  rw [hm]
  simp only
  have e0 : cutting_Cuts_L1 a p (n + 1) du ch e (i : Int) = bif m != 0 then some (.inl ([], [], m)) else bif decide ((p.getD i default).At > e) then (cutting_add_s1 e (w64 ((p.getD i default).At - a.Kerf)) ch).bind fun v16 =>
            (cutting_add_s1 (w64 ((p.getD i default).At - a.Kerf)) (p.getD i default).At du).bind fun v18 =>
            cutting_Cuts_k2 a p (i : Int) (cutting_Cuts_L1 a p n) v18.2 v16.2
          else cutting_Cuts_k2 a p (i : Int) (cutting_Cuts_L1 a p n) du ch := by
    rw [cutting_Cuts_L1, decide_eq_true (by omega), inb_t (by omega) (by omega)]
    simp only [Int.toNat_natCast, cond_true, hm, Option.bind_some]
  rw [e0]
  by_cases cm : m ≠ 0
  · rw [if_pos cm, show (m != 0) = true by rw [bne_iff_ne]; exact cm]
    exact ⟨rfl, cm⟩
  rw [if_neg cm]
  have m0 : m = 0 := by omega
  subst m0
  obtain ⟨k, q, hx, hk, hq, e0', wh, hg⟩ := hl rfl
  simp only [bne_self_eq_false, cond_false, hx, Int.toNat_natCast]
  have ln := h.len
  have kf := h.kerf
  have sz := h.sz k hk
  have cl := h.cl
  have dl := h.dl
  have en : (endN a q k : Int) = q + a.Sizes.getD k default := by unfold endN szAt; omega
  have hqq : (q : Int) + a.Sizes.getD k default ≤ a.Len := by unfold szAt at hq; omega
  have gg : gnOf a p i = gnAt a k q := by unfold gnOf; rw [hx]; simp
  have sg : sumN (i + 1) (gnOf a p) = sumN i (gnOf a p) + gnAt a k q := by rw [sumN, gg]
  -- what the best from the edge on is at least
  have hge : (bst a e.toNat).value ≥ (if (q : Int) > e then restV a e.toNat q else 0) + candV a (bst a) q k := by
    have hqL : (q : Int) ≤ a.Len := by omega
    have st := startS_ge (a := a) (best := bst a) (p := q) (i := k) hk hq hg
    rw [← stt_eq h hqL] at st
    have bg := bestS_ge a (stt a) e.toNat
    rw [← bst_eq h (by omega)] at bg
    rcases wh with w | ⟨j, hj, w⟩
    · rw [if_neg (by omega)]
      have eq : e.toNat = q := by omega
      rw [eq] at bg ⊢
      have := bg.2.1 st.1
      omega
    · have lo' := place_lo h e.toNat j
      rw [if_pos (by omega)]
      have := bg.2.2 j hj (by rw [← w]; exact st.1)
      rw [← w] at this
      omega
  have qe : (q : Int) = e ∨ e + a.Kerf + 1 ≤ q := by
    rcases wh with w | ⟨j, hj, w⟩
    · exact .inl w
    · have := place_lo h e.toNat j; exact .inr (by omega)
  clear wh
  -- the end of the piece and what lies behind it
  have hb : ∀ (d' c' : List Span), d'.length ≤ 50000 → cutting_Cuts_k2 a p (i : Int) (cutting_Cuts_L1 a p n) d' c' = cutting_Cuts_L1 a p n (addS d' ((q : Int) + a.Sizes.getD k default) (if (q : Int) + a.Sizes.getD k default = a.Len then -1 else imin ((q : Int) + a.Sizes.getD k default + a.Kerf) a.Len)) c' (if (q : Int) + a.Sizes.getD k default = a.Len then -1 else imin ((q : Int) + a.Sizes.getD k default + a.Kerf) a.Len) ((i + 1 : Nat) : Int) := fun d' c' hd => by
    unfold cutting_Cuts_k2 cutting_behind
    simp only [Int.toNat_natCast, hx]
    rw [inb_t (by omega) (by omega), w64_id (n := (q : Int) + a.Sizes.getD k default) (by omega) (by omega), w64_id (n := (q : Int) + a.Sizes.getD k default + a.Kerf) (by omega) (by omega), inc_eq (by omega)]
    by_cases c : (q : Int) + a.Sizes.getD k default = a.Len
    · rw [show ((q : Int) + a.Sizes.getD k default == a.Len) = true by rw [beq_iff_eq]; exact c, if_pos c]
      simp only [cond_true, Option.bind_some]
      rw [addS_eq (by omega)]; rfl
    · rw [show ((q : Int) + a.Sizes.getD k default == a.Len) = false by rw [beq_eq_false_iff_ne]; exact c, if_neg c]
      simp only [cond_true, cond_false, Option.bind_some]
      rw [addS_eq (by omega)]; rfl
  -- the value of what lies behind the piece
  have hcand : ∀ (D : Int) (d' : List Span), tot a.Dust d' = D → (tot a.Dust (addS d' ((q : Int) + a.Sizes.getD k default) (if (q : Int) + a.Sizes.getD k default = a.Len then -1 else imin ((q : Int) + a.Sizes.getD k default + a.Kerf) a.Len)) + gnAt a k q + (if (if (q : Int) + a.Sizes.getD k default = a.Len then -1 else imin ((q : Int) + a.Sizes.getD k default + a.Kerf) a.Len) < 0 then 0 else (bst a (if (q : Int) + a.Sizes.getD k default = a.Len then -1 else imin ((q : Int) + a.Sizes.getD k default + a.Kerf) a.Len).toNat).value) = D + candV a (bst a) q k)
      ∧ D - 1125899906842624 * ((if (if (q : Int) + a.Sizes.getD k default = a.Len then -1 else imin ((q : Int) + a.Sizes.getD k default + a.Kerf) a.Len) < 0 then a.Len else (if (q : Int) + a.Sizes.getD k default = a.Len then -1 else imin ((q : Int) + a.Sizes.getD k default + a.Kerf) a.Len)) - ((q : Int) + a.Sizes.getD k default)) ≤ tot a.Dust (addS d' ((q : Int) + a.Sizes.getD k default) (if (q : Int) + a.Sizes.getD k default = a.Len then -1 else imin ((q : Int) + a.Sizes.getD k default + a.Kerf) a.Len)) := fun D d' hD => by
    unfold candV
    by_cases c : (q : Int) + a.Sizes.getD k default = a.Len
    · rw [if_pos c, if_pos (show (endN a q k : Int) = a.Len by omega), if_pos (show (-1 : Int) < 0 by decide), if_pos (show (-1 : Int) < 0 by decide)]
      have : addS d' ((q : Int) + a.Sizes.getD k default) (-1) = d' := by unfold addS; rw [if_pos (by omega)]
      rw [this, hD]
      exact ⟨by omega, by omega⟩
    · have mi := imin_or ((q : Int) + a.Sizes.getD k default + a.Kerf) a.Len
      have nx : (nxtN a (endN a q k) : Int) = imin ((q : Int) + a.Sizes.getD k default + a.Kerf) a.Len := by unfold nxtN; rw [en]; omega
      rw [if_neg c, if_neg (show ¬ (endN a q k : Int) = a.Len by omega), if_neg (by omega), if_neg (by omega), addS_tot _ _ (by omega), hD, ← nx, ← en, Int.toNat_natCast, Int.toNat_natCast]
      have dlo := diff_lo (a := a) h.db (x := (endN a q k : Int)) (y := (nxtN a (endN a q k) : Int)) (by omega) (by omega) (by omega)
      rw [Int.toNat_natCast, Int.toNat_natCast] at dlo
      exact ⟨by omega, by omega⟩
  have hbe : (if (q : Int) + a.Sizes.getD k default = a.Len then -1 else imin ((q : Int) + a.Sizes.getD k default + a.Kerf) a.Len) = -1 ∨ (0 ≤ (if (q : Int) + a.Sizes.getD k default = a.Len then -1 else imin ((q : Int) + a.Sizes.getD k default + a.Kerf) a.Len) ∧ (if (q : Int) + a.Sizes.getD k default = a.Len then -1 else imin ((q : Int) + a.Sizes.getD k default + a.Kerf) a.Len) ≤ a.Len) := by
    have mi := imin_or ((q : Int) + a.Sizes.getD k default + a.Kerf) a.Len
    split
    · exact .inl rfl
    · exact .inr ⟨by omega, by omega⟩
  generalize (if (q : Int) + a.Sizes.getD k default = a.Len then -1 else imin ((q : Int) + a.Sizes.getD k default + a.Kerf) a.Len) = b at *
  have pc' : ∀ j, j < i + 1 → ∃ k q : Nat, p.getD j default = ⟨(k : Int), (q : Int)⟩ ∧ k < a.Sizes.length ∧ ¬ ((q : Int) + szAt a k > a.Len) := fun j hj => by
    by_cases cj : j = i
    · subst cj; exact ⟨k, q, hx, hk, hq⟩
    · exact pc j (by omega)
  have gn0 : 0 ≤ gnAt a k q := by omega
  rw [if_neg (show ¬ e < 0 by omega)] at up lo
  by_cases c : (q : Int) > e
  · rw [decide_eq_true c, if_pos c, if_pos c, w64_id (n := (q : Int) - a.Kerf) (by omega) (by omega)]
    rw [if_pos c] at hge
    simp only [cond_true]
    rw [addS_eq (by omega), addS_eq (by omega)]
    simp only [Option.bind_some]
    have la := addS_len du ((q : Int) - a.Kerf) q
    have lb := addS_len ch e ((q : Int) - a.Kerf)
    rw [hb _ _ (by omega)]
    have t1 := addS_tot a.Dust du (a := (q : Int) - a.Kerf) (b := (q : Int)) (by omega)
    have t2 := addS_tot a.Chip ch (a := e) (b := (q : Int) - a.Kerf) (by omega)
    obtain ⟨v1, v2⟩ := hcand _ _ t1
    have dlo := diff_lo (a := a) h.db (x := (q : Int) - a.Kerf) (y := (q : Int)) (by omega) (by omega) (by omega)
    have clo := diff_lo (a := a) h.cb (x := e) (y := (q : Int) - a.Kerf) (by omega) (by omega) (by omega)
    have rv : restV a e.toNat q = pre a.Chip ((q : Int) - a.Kerf).toNat - pre a.Chip e.toNat + pre a.Dust (q : Int).toNat - pre a.Dust ((q : Int) - a.Kerf).toNat := by
      unfold restV
      rw [show ((q : Int) - a.Kerf).toNat = q - a.Kerf.toNat by omega, Int.toNat_natCast]
    rw [rv] at hge
    refine ⟨rfl, ⟨?_, ?_, ?_, ?_, hbe, pc', ?_, ?_⟩⟩
    · have := addS_len (addS du ((q : Int) - a.Kerf) q) ((q : Int) + a.Sizes.getD k default) b; simp only; omega
    · simp only; omega
    · exact addS_ok (addS_ok o1 (fun _ => by omega)) (fun _ => by omega)
    · exact addS_ok o2 (fun _ => by omega)
    · simp only; rw [sg, t2]; omega
    · simp only; rw [sg, t2]; omega
  · have eq : (q : Int) = e := by omega
    rw [decide_eq_false c, if_neg c, if_neg c]
    rw [if_neg c] at hge
    simp only [cond_false]
    rw [hb _ _ (by omega)]
    obtain ⟨v1, v2⟩ := hcand (tot a.Dust du) du rfl
    refine ⟨rfl, ⟨?_, ?_, ?_, ?_, hbe, pc', ?_, ?_⟩⟩
    · have := addS_len du ((q : Int) + a.Sizes.getD k default) b; simp only; omega
    · simp only; omega
    · exact addS_ok o1 (fun _ => by omega)
    · exact o2
    · simp only; rw [sg]; omega
    · simp only; rw [sg]; omega
theorem Cuts_ex {a : Line} (h : VL a) {p : List Piece} (hp : p.length ≤ 1000) : ∃ d c n, cutting_Cuts a p = some (d, c, n) ∧ (n = 0 →
    d.length ≤ 2 * p.length ∧ c.length ≤ p.length + 1 ∧ (∀ x ∈ d, okSp a.Len x) ∧ (∀ x ∈ c, okSp a.Len x) ∧ (∀ j, j < p.length → ∃ k q : Nat, p.getD j default = ⟨(k : Int), (q : Int)⟩ ∧ k < a.Sizes.length ∧ ¬ ((q : Int) + szAt a k > a.Len)) ∧
    tot a.Dust d + tot a.Chip c + sumN p.length (gnOf a p) ≤ (bst a 0).value ∧ -(1125899906842624 * a.Len) ≤ tot a.Dust d + tot a.Chip c + sumN p.length (gnOf a p)) := by
  have ln := h.len
  unfold cutting_Cuts
  rw [cutCheck_ok h]
  simp only [Option.bind_some, bne_self_eq_false, cond_false]
  have c0 : CI a p 0 ([], [], 0) := ⟨by simp, by simp, (fun x hx => by cases hx), (fun x hx => by cases hx), .inr ⟨by simp, by simp only; omega⟩, (fun j hj => by omega), by simp [tot_nil, sumN], by simp [tot_nil, sumN]⟩
  have k := loop_runN p.length (fun n (s : List Span × List Span × Int) i => cutting_Cuts_L1 a p n s.1 s.2.1 s.2.2 i) (cutStep a p) (fun r => r) (fun i s => CI a p i s)
    (fun n i s hi c => by
      have := Cuts_step h hp (n := n) hi c
      cases hs : cutStep a p i s with
      | inl r => rw [hs] at this; exact this.1
      | inr s' => rw [hs] at this; exact this)
    (fun n s _ => by rw [cutting_Cuts_L1, decide_eq_false (by omega)]; rfl) FUEL 0 ([], [], 0) (by rw [FUEL_eq]; omega) (by omega) c0
  rw [show ((0 : Nat) : Int) = 0 from rfl, Nat.sub_zero] at k
  simp only at k
  rw [k]
  cases hr : runN (cutStep a p) 0 p.length ([], [], 0) with
  | inl r =>
    have hne : ∀ (k x : Nat) (s : List Span × List Span × Int), x + k = p.length → CI a p x s → runN (cutStep a p) x k s = .inl r → r.2.2 ≠ 0 := by
      intro k
      induction k with
      | zero => intro x s _ _ h; cases h
      | succ k ih =>
        intro x s hx c hrr
        have st := Cuts_step h hp (n := 0) (show x < p.length by omega) c
        unfold runN at hrr
        cases hs : cutStep a p x s with
        | inl r' => rw [hs] at hrr st; cases hrr; exact st.2
        | inr s' => rw [hs] at hrr st; exact ih (x + 1) s' (by omega) st.2 hrr
    exact ⟨r.1, r.2.1, r.2.2, rfl, fun z => absurd z (hne _ 0 _ (by omega) c0 hr)⟩
  | inr s =>
    have ci := runN_inv (cutStep a p) (fun i s => CI a p i s) p.length (fun x s s' hx c e => by
      have := Cuts_step h hp (n := 0) hx c
      rw [e] at this; exact this.2) p.length 0 _ s (by omega) c0 hr
    obtain ⟨du, ch, e⟩ := s
    obtain ⟨l1, l2, o1, o2, ed, pc, up, lo⟩ := ci
    simp only at l1 l2 o1 o2 ed up lo
    simp only [Option.bind_some, Sum.elim_inr, cutting_Cuts_k3]
    by_cases c : e ≥ 0
    · rw [decide_eq_true c, addS_eq (by omega)]
      rw [if_neg (by omega)] at up lo
      have ht := addS_tot a.Chip ch (a := e) (b := a.Len) (by omega)
      have al := addS_len ch e a.Len
      have bg := bestS_ge a (stt a) e.toNat
      rw [← bst_eq h (by omega)] at bg
      have cl := h.cl
      have clo := diff_lo (a := a) h.cb (x := e) (y := a.Len) (by omega) (by omega) (by omega)
      refine ⟨du, addS ch e a.Len, 0, rfl, fun _ => ⟨l1, by omega, o1, addS_ok o2 (fun _ => by omega), pc, ?_, ?_⟩⟩
      · rw [ht]; have := bg.1; omega
      · rw [ht]; omega
    · rw [decide_eq_false c]
      rw [if_pos (by omega)] at up lo
      exact ⟨du, ch, 0, rfl, fun _ => ⟨l1, by omega, o1, o2, pc, by omega, by omega⟩⟩
theorem Value_ex {a : Line} (h : VL a) {p : List Piece} (hp : p.length ≤ 1000) (hv : -2251799813685248 * 2000 ≤ (bst a 0).value ∧ (bst a 0).value ≤ 2251799813685248 * 2000) : ∃ v n, cutting_Value a p = some (v, n) ∧ (n = 0 → v ≤ (bst a 0).value) := by
  have ln := h.len
  obtain ⟨d, c, n, e, hn⟩ := Cuts_ex h hp
  unfold cutting_Value
  rw [e]
  simp only [Option.bind_some]
  by_cases n0 : n = 0
  · obtain ⟨l1, l2, o1, o2, pc, up, lo⟩ := hn n0
    have cl := h.cl
    have dl := h.dl
    rw [total_eq (by omega) (by omega) (fun i hi => by rw [dl]; exact o1 _ (getD_mem' hi)), total_eq (by omega) (by omega) (fun i hi => by rw [cl]; exact o2 _ (getD_mem' hi)), n0]
    simp only [Option.bind_some, bne_self_eq_false, cond_false]
    have k := loop_foldN p.length (fun n (s : Int) i => cutting_Value_L1 a p n s i) (fun i s => w64 (s + gnOf a p i)) (fun s => s) (fun i s => s = w64 (tot a.Dust d + tot a.Chip c + sumN i (gnOf a p))) 0 (by omega) (by omega)
      (fun n i s hi hs => by
        obtain ⟨k, q, ex, hk, hq⟩ := pc i hi
        have gr := h.gr k hk
        have gl := h.gl
        have sz := h.sz k hk
        unfold szAt at hq
        refine ⟨?_, by rw [hs, w64_addl, Int.add_assoc]; rfl⟩
        rw [cutting_Value_L1, decide_eq_true (by omega), inb_t (by omega) (by omega)]
        simp only [cond_true, Int.toNat_natCast, ex, inc_eq (show i < 4611686018427387904 by omega)]
        rw [inb_t (by omega) (by omega), inb_t (by omega) (by omega)]
        simp only [cond_true]
        unfold gnOf gnAt
        rw [ex]
        simp only [Int.toNat_natCast])
      (fun n s _ => by rw [cutting_Value_L1, decide_eq_false (by omega)]; rfl) (w64 (w64 (tot a.Dust d) + w64 (tot a.Chip c))) (by rw [w64_addl, w64_addr]; simp [sumN])
    rw [show ((0 : Nat) : Int) = 0 from rfl, Nat.sub_zero] at k
    rw [k.1, k.2]
    refine ⟨_, 0, rfl, fun _ => ?_⟩
    rw [w64_id (by omega) (by omega)]
    exact up
  · rw [show (n != 0) = true by rw [bne_iff_ne]; exact n0]
    exact ⟨0, n, rfl, fun z => absurd z n0⟩
theorem within_addX (s : Section) {A m B : Int} (y : Span) (h1 : A ≤ m) (h2 : m ≤ B) : withinS s ⟨A, m⟩ y + withinS s ⟨m, B⟩ y = withinS s ⟨A, B⟩ y := by
  unfold withinS
  rw [← sumR_add]
  refine sumR_congr (fun r _ _ => ?_)
  rw [← ml_add (row s r) h1 h2, Int.add_mul]
theorem vol_addX (l : List Slice) {A m B : Int} (y z : Span) (h1 : A ≤ m) (h2 : m ≤ B) : volS l ⟨A, m⟩ y z + volS l ⟨m, B⟩ y z = volS l ⟨A, B⟩ y z := by
  unfold volS
  rw [← sumN_add]
  refine sumN_congr (fun i _ => ?_)
  rw [← within_addX _ y h1 h2, Int.mul_add]
theorem within_nil (s : Section) (A : Int) (y : Span) : withinS s ⟨A, A⟩ y = 0 := by
  have := within_addX s (A := A) (m := A) (B := A) y (Int.le_refl _) (Int.le_refl _); omega
theorem vol_nil (l : List Slice) (A : Int) (y z : Span) : volS l ⟨A, A⟩ y z = 0 := by
  have := vol_addX l (A := A) (m := A) (B := A) y z (Int.le_refl _) (Int.le_refl _); omega
theorem sliv_sum (l : List Slice) (r : Rect) : ∀ k : Nat, sumN k (sliv l r) = volS l ⟨r.X.A, r.X.A + k⟩ r.Y ⟨0, solLen l⟩
  | 0 => by rw [sumN, show r.X.A + ((0 : Nat) : Int) = r.X.A by omega, vol_nil]
  | k + 1 => by
    rw [sumN, sliv_sum l r k]
    unfold sliv partR
    simp only
    rw [show r.X.A + ((k + 1 : Nat) : Int) = r.X.A + ((k : Int) + 1) by omega]
    exact vol_addX l r.Y _ (by omega) (by omega)
theorem chip_sum {l : List Slice} {ds : List Defect} {ps : List Product} {r : Rect} {w : Saw} {t : Rates} (h : VE l ds ps r w t) : t.Chip * volS l r.X r.Y ⟨0, solLen l⟩ ≤ (bst (lineS l ds ps r w t) 0).value := by
  have vl := lineS_VL h
  have ln := vl.len
  have hr := h.vr
  unfold VR at hr
  have bg := (bestS_ge (lineS l ds ps r w t) (stt (lineS l ds ps r w t)) 0).1
  rw [← bst_eq vl (by omega)] at bg
  have e : pre (lineS l ds ps r w t).Chip (lineS l ds ps r w t).Len.toNat = t.Chip * volS l r.X r.Y ⟨0, solLen l⟩ := by
    show pre ((List.range (wid r).toNat).map (fun x => t.Chip * sliv l r x)) (wid r).toNat = _
    unfold pre
    rw [sumN_congr (g := fun i => t.Chip * sliv l r i) (fun i hi => getD_range _ hi), sumN_mul, sliv_sum, show r.X.A + (((wid r).toNat : Nat) : Int) = r.X.B by unfold wid; omega]
  rw [e, show pre (lineS l ds ps r w t).Chip 0 = 0 from rfl] at bg
  omega
theorem bst0_BV {a : Line} (h : VL a) : -2251799813685248 * 2000 ≤ (bst a 0).value ∧ (bst a 0).value ≤ 2251799813685248 * 2000 := by
  have ln := h.len
  obtain ⟨s, e, t⟩ := choices_L1_eq h (a.Len.toNat + 1) 0 FUEL (List.replicate (a.Len.toNat + 1) ⟨⟨0, 0⟩, 0⟩, List.replicate (a.Len.toNat + 1) ⟨⟨0, 0⟩, 0⟩) (by omega) (by rw [FUEL_eq]; omega) (TI0 h)
  have := (t.b1 0 (by omega) (by omega)).1
  unfold BV at this
  unfold bst
  omega
theorem line23_eq (a : Law23_Given) : law23_line a = some (lineR a.Solid a.Defects a.Products a.Strip a.Saw a.Rates) := by
  unfold law23_line
  rw [Line_eq]; rfl
theorem EdgeOptimal_true (a : Law23_Given) (p : List Piece) {w w' : Prop} (_ : w) (_ : w') : law23_EdgeOptimal a p = some true := by
  unfold law23_EdgeOptimal
  have KT : law23_EdgeOptimal_k1 a p true = some true := by unfold law23_EdgeOptimal_k1; rw [awake23_true]; rfl
  obtain ⟨b, e⟩ := Small_ex a
  rw [e]
  simp only [Option.bind_some]
  cases b with
  | false => rw [Bool.not_false, cond_true]; exact KT
  | true =>
    simp only [Bool.not_true, cond_false]
    by_cases c1 : ((p.length : Nat) : Int) > 100
    · rw [decide_eq_true c1]; exact KT
    rw [decide_eq_false c1]
    unfold law23_EdgeOptimal_k1
    rw [best23_eq, line23_eq]
    simp only [cond_false, Option.bind_some, awake23_true, law23_EdgeOptimal_k2, law23_EdgeOptimal_k3, law23_EdgeOptimal_k4]
    by_cases d : chkE a.Solid a.Defects a.Products a.Strip a.Saw a.Rates = 0
    · have h := chkE_zero.1 d
      have vl := lineS_VL h
      unfold edgeR lineR
      rw [if_pos d, if_pos d]
      unfold edgeB
      by_cases d2 : (rowN 2 (lineS a.Solid a.Defects a.Products a.Strip a.Saw a.Rates).Kerf a.Strip.X (edgePts a.Products a.Strip (lineS a.Solid a.Defects a.Products a.Strip a.Saw a.Rates))).length ≤ 127
      · rw [if_pos d2, (Length_eq a.Solid).1, valL_of h.sol]
        simp only [bne_self_eq_false, cond_false, Option.bind_some, solWithin_eq h.sol]
        have cs := chip_sum h
        have vb := vol_b h.sol a.Strip.X a.Strip.Y ⟨0, solLen a.Solid⟩
        have cp := h.vw.chip
        have mb := mul_bound (a := a.Rates.Chip) (b := volS a.Solid a.Strip.X a.Strip.Y ⟨0, solLen a.Solid⟩) (m := 1000) (n := 28800000000) (by omega) (by omega) (by omega) (by omega) (by omega) (by omega)
        rw [w64_id (n := a.Rates.Chip * volS a.Solid a.Strip.X a.Strip.Y ⟨0, solLen a.Solid⟩) (by omega) (by omega), decide_eq_false (by omega)]
        simp only [cond_false]
        obtain ⟨v, n, hv, hn⟩ := Value_ex vl (p := p) (by omega) (bst0_BV vl)
        rw [show (Line.mk (lineS a.Solid a.Defects a.Products a.Strip a.Saw a.Rates).Len (lineS a.Solid a.Defects a.Products a.Strip a.Saw a.Rates).Kerf (lineS a.Solid a.Defects a.Products a.Strip a.Saw a.Rates).Pitch (lineS a.Solid a.Defects a.Products a.Strip a.Saw a.Rates).Sizes (lineS a.Solid a.Defects a.Products a.Strip a.Saw a.Rates).Gain (lineS a.Solid a.Defects a.Products a.Strip a.Saw a.Rates).Chip (lineS a.Solid a.Defects a.Products a.Strip a.Saw a.Rates).Dust) = lineS a.Solid a.Defects a.Products a.Strip a.Saw a.Rates from rfl, hv]
        simp only [Option.bind_some]
        by_cases n0 : n = 0
        · rw [n0, decide_eq_true (hn n0)]; rfl
        · rw [show (n != 0) = true by rw [bne_iff_ne]; exact n0]; rfl
      · rw [if_neg d2]; rfl
    · unfold edgeR lineR
      rw [if_neg d, if_neg d]
      simp only [beq_self_eq_true, cond_true]
      rw [show (chkE a.Solid a.Defects a.Products a.Strip a.Saw a.Rates != 0) = true by rw [bne_iff_ne]; exact d]; rfl
end Saw
end Go.SL
