/- Edge's plain mathematics over the reference, part 5: the laws EdgeLines and EdgeBests. -/
import Derived.Test.YtgpgnlllieekbaaGreatDoorEMa6
set_option linter.unusedVariables false
set_option linter.unusedSimpArgs false
namespace Go.SL
namespace Saw
theorem qPY {l : List Slice} {ds : List Defect} {p : qC} {r : Rect} {w : Saw} {t : Rates} (hs : VSol l) (hd : JG ds = 0) (hp : wZ [p] = 0) (hv : VP p) (hr : VR r) (hw : VW w t) : MH l ds p r w t = some (qDw l ds p r w t) := by
 unfold MH qDw
 rw [qOQ hs hd hp hv hr hw.step hw.fine]
 have B := qLx (l := l) (ds := ds) (p := p) (r := r) (step := w.Step) hw.fine.1 hv
 generalize QP l ds p r w.Step t.Fine = b at *
 obtain ⟨v, f, z⟩ := b
 simp only [Option.bind_some] at *
 cases f with
 | false => rfl
 | true =>
  obtain ⟨b1, b2, b3⟩ := B
  have b3 := b3 rfl
  simp only at b1 b2 b3
  simp only [Bool.not_true, cond_false, cond_true]
  have sb := SO hs
  have tr := hw.trim
  rw [(XW l).2, TN hs]
  simp only [Option.bind_some, qKb hs, qHa hs]
  rw [qF (n := z.A - w.Trim) (by omega) (by omega), qF (n := z.B + w.Trim) (by omega) (by omega)]
  have v1 := qAb hs r.X r.Y ⟨0, qY l⟩
  have v2 := qAb hs r.X r.Y z
  have v3 := qAb hs r.X r.Y ⟨imax 0 (z.A - w.Trim), z.A⟩
  have v4 := qAb hs r.X r.Y ⟨z.B, imin (z.B + w.Trim) (qY l)⟩
  generalize volS l r.X r.Y ⟨0, qY l⟩ = x1 at *
  generalize volS l r.X r.Y z = x2 at *
  generalize volS l r.X r.Y ⟨imax 0 (z.A - w.Trim), z.A⟩ = x3 at *
  generalize volS l r.X r.Y ⟨z.B, imin (z.B + w.Trim) (qY l)⟩ = x4 at *
  have m1 := yX (a := t.Dust) (b := x3 + x4) (m := 1000) (n := 57600000000) (by have := hw.dust; omega) (by have := hw.dust; omega) (by omega) (by omega) (by omega) (by omega)
  have m2 := yX (a := t.Chip) (b := x1 - x2 - (x3 + x4)) (m := 1000) (n := 86400000000) (by have := hw.chip; omega) (by have := hw.chip; omega) (by omega) (by omega) (by omega) (by omega)
  rw [qF (n := 1000000 * v) (by omega) (by omega), qF (n := x3 + x4) (by omega) (by omega), qF (n := x1 - x2) (by omega) (by omega), qF (n := x1 - x2 - (x3 + x4)) (by omega) (by omega)]
  generalize t.Dust * (x3 + x4) = y1 at *
  generalize t.Chip * (x1 - x2 - (x3 + x4)) = y2 at *
  rw [qF (n := y1) (by omega) (by omega), qF (n := y2) (by omega) (by omega), qF (n := 1000000 * v + y1) (by omega) (by omega), qF (by omega) (by omega)]
theorem qMY {l : List Slice} {ds : List Defect} {ps : List qC} {r : Rect} {w : Saw} {t : Rates} (h : VE l ds ps r w t) (z : Int) {j : Nat} (hj : j < (sizes ps z).1.length) :
  yK l ds ps r w t (sizes ps z) (j : Int) FUEL [] 0 = some (LJ l ds (ps.getD ((sizes ps z).2.getD j default).toNat default) r w t ((sizes ps z).1.getD j default)) := by
 obtain ⟨s1, s2, i, hi, ei, vp, c1⟩ := qDL h.pr z hj
 have hsl := (qJp h.pr z).len
 have hr := h.vr
 have hr' := hr
 unfold VR at hr'
 have hw := h.vw
 have hp := hw.pitch
 have hd : JG ds = 0 := (KA ds).2 ⟨h.dl, h.dd⟩
 rw [ei, Int.toNat_natCast]
 generalize hsz : (sizes ps z).1.getD j default = sz at *
 have k := zE (wid r - sz + 1).toNat (fun n (s : List Int) x => yK l ds ps r w t (sizes ps z) (j : Int) n s x) (fun x s => s ++ [AU l ds (ps.getD i default) r w t sz x]) (fun s => s)
  (fun x s => s = (List.range x).map (AU l ds (ps.getD i default) r w t sz)) 0 (by omega) (by unfold wid; omega)
  (fun n x s hx hs => by
   unfold wid at hx
   have hlen : s.length = x := by rw [hs]; simp
   refine ⟨?_, by rw [hs, List.range_succ, List.map_append]; rfl⟩
   rw [yK]
   simp only [Int.toNat_natCast, hsz, ei]
   rw [qM (show (0 : Int) ≤ (j : Int) by omega) (show (j : Int) < (((sizes ps z).1.length : Nat) : Int) by omega), qF (n := (x : Int) + sz) (by omega) (by omega), qF (n := r.X.B - r.X.A) (by omega) (by omega), decide_eq_true (by omega), nz_t (by omega), qM (by omega) (by omega), qM (by omega) (by omega), qGs hr (by omega) (by omega)]
   simp only [cond_true, Option.bind_some, NY, qQ (show x < 4611686018427387904 by omega)]
   rw [zG (by omega) (by omega), qPY h.sol hd c1 vp (qI9 hr (a := (x : Int)) (b := (x : Int) + sz) (by omega) (by omega) (by omega)) hw]
   simp only [cond_true, Option.bind_some, AU]
   have em : Int.tmod (x : Int) w.Pitch = (x : Int) % w.Pitch := Int.tmod_eq_emod_of_nonneg (by omega)
   rw [em]
   by_cases c : (x : Int) % w.Pitch = 0
   ·rw [if_pos c, c]; rfl
   ·rw [if_neg c, show ((x : Int) % w.Pitch == 0) = false by rw [beq_eq_false_iff_ne]; exact c]; rfl)
  (fun n s _ => by
   rw [yK]
   simp only [Int.toNat_natCast, hsz]
   unfold wid
   rw [qM (show (0 : Int) ≤ (j : Int) by omega) (show (j : Int) < (((sizes ps z).1.length : Nat) : Int) by omega), qF (n := (((r.X.B - r.X.A - sz + 1).toNat : Nat) : Int) + sz) (by omega) (by omega), qF (n := r.X.B - r.X.A) (by omega) (by omega), decide_eq_false (by omega)]; rfl) [] rfl
 rw [show ((0 : Nat) : Int) = 0 from rfl, Nat.sub_zero] at k
 rw [k.1, k.2]
 rfl
theorem qOG {l : List Slice} {ds : List Defect} {ps : List qC} {r : Rect} {w : Saw} {t : Rates} (h : VE l ds ps r w t) (z : Int) : JB l ds ps r w t (sizes ps z) FUEL 0 [] = some (qH5 l ds ps r w t z) := by
 have hl := (AD ps z).1
 let g : Nat → List Int := fun j => LJ l ds (ps.getD ((sizes ps z).2.getD j default).toNat default) r w t ((sizes ps z).1.getD j default)
 have k := zE (sizes ps z).1.length (fun n (s : List (List Int)) x => JB l ds ps r w t (sizes ps z) n x s) (fun j s => s ++ [g j]) (fun s => s) (fun j s => s = (List.range j).map g) 0 (by omega) (by omega)
  (fun n j s hj hs => by
   have hlen : s.length = j := by rw [hs]; simp
   refine ⟨?_, by rw [hs, List.range_succ, List.map_append]; rfl⟩
   rw [JB, decide_eq_true (by omega), qMY h z hj]
   simp only [cond_true, Option.bind_some]
   rw [zG (by omega) (by omega), qQ (by omega)]
   rfl)
  (fun n s _ => by rw [JB, decide_eq_false (by omega)]; rfl) [] rfl
 rw [show ((0 : Nat) : Int) = 0 from rfl, Nat.sub_zero] at k
 rw [k.1, k.2]; rfl
theorem qPk {l : List Slice} {ds : List Defect} {ps : List qC} {r : Rect} {w : Saw} {t : Rates} (h : VE l ds ps r w t) : WV l r t FUEL 0 [] [] = some ((List.range (wid r).toNat).map (fun x => t.Chip * sliv l r x), (List.range (wid r).toNat).map (fun x => t.Dust * sliv l r x)) := by
 have hr := h.vr
 unfold VR at hr
 have hw := h.vw
 have k := zE (wid r).toNat (fun n (s : List Int × List Int) x => WV l r t n x s.1 s.2) (fun x s => (s.1 ++ [t.Chip * sliv l r x], s.2 ++ [t.Dust * sliv l r x])) (fun s => s)
  (fun x s => s = ((List.range x).map (fun x => t.Chip * sliv l r x), (List.range x).map (fun x => t.Dust * sliv l r x))) 0 (by omega) (by unfold wid; omega)
  (fun n x s hx hs => by
   unfold wid at hx
   subst hs
   have sb := qHv h.sol r x
   have m1 := yX (a := t.Chip) (b := sliv l r x) (m := 1000) (n := 28800000000) (by have := hw.chip; omega) (by have := hw.chip; omega) (by omega) (by omega) (by omega) (by omega)
   have m2 := yX (a := t.Dust) (b := sliv l r x) (m := 1000) (n := 28800000000) (by have := hw.dust; omega) (by have := hw.dust; omega) (by omega) (by omega) (by omega) (by omega)
   refine ⟨?_, by simp only [List.range_succ, List.map_append]; rfl⟩
   simp only
   rw [WV, qF (n := r.X.B - r.X.A) (by omega) (by omega), decide_eq_true (by omega), qF (n := (x : Int) + 1) (by omega) (by omega), qGs h.vr (by omega) (by omega)]
   simp only [cond_true, Option.bind_some, qHa h.sol, List.length_map, List.length_range]
   rw [zG (by omega) (by omega)]
   simp only [cond_true]
   rw [show volS l (UR r (x : Int) ((x : Int) + 1)).X (UR r (x : Int) ((x : Int) + 1)).Y ⟨0, qY l⟩ = sliv l r x from rfl, qF (n := t.Chip * sliv l r x) (by omega) (by omega), qF (n := t.Dust * sliv l r x) (by omega) (by omega), show (x : Int) + 1 = ((x + 1 : Nat) : Int) by omega])
  (fun n s _ => by
   try simp only
   unfold wid
   rw [WV, qF (n := r.X.B - r.X.A) (by omega) (by omega), decide_eq_false (by omega)]; rfl) ([], []) rfl
 rw [show ((0 : Nat) : Int) = 0 from rfl, Nat.sub_zero] at k
 rw [k.1, k.2]
theorem qPU (l : List Slice) (ds : List Defect) (ps : List qC) (r : Rect) (w : Saw) (t : Rates) : MN l ds ps r w t = some (qFn l ds ps r w t) := by
 unfold MN qFn
 rw [qQe]
 simp only [Option.bind_some]
 by_cases c : chkE l ds ps r w t = 0
 ·have h := qB2.1 c
  have hr := h.vr
  unfold VR at hr
  rw [if_pos c, c, qF (n := r.Y.B - r.Y.A) (by omega) (by omega), (qDy ps _).2, qF (n := r.X.B - r.X.A) (by omega) (by omega)]
  simp only [bne_self_eq_false, cond_false, Option.bind_some, qOG h, qPk h]
  rfl
 ·rw [if_neg c, show (chkE l ds ps r w t != 0) = true by rw [bne_iff_ne]; exact c]; rfl
/-! ### Sameness -/
theorem qJh (l : List Node) (h : l.length ≤ 1000000) : XK l l = some true := by
 unfold XK
 rw [bne_self_eq_false, KD l.length (yW l l) (by omega) (fun n i hi => ?_) (fun n => ?_)]
 ·rfl
 ·rw [yW, decide_eq_true (by omega), qM (by omega) (by omega), qQ (by omega)]
  simp only [beq_self_eq_true, Bool.and_self, Bool.not_true, cond_true, cond_false]
 ·rw [yW, decide_eq_false (by omega)]; rfl
theorem qOy (a : qP) : PY a = some (qDW a.Solid a.Defects a.Products a.Strip a.Saw a.Rates) := by
 unfold PY
 rw [qNi]; rfl
theorem qOi (l : List Slice) (ds : List Defect) (ps : List qC) (r : Rect) (w : Saw) (t : Rates) : MD l ds ps r w t = some (qDW l ds ps r w t) := by
 unfold MD qDW
 rw [qPU]
 unfold qFn
 by_cases c : chkE l ds ps r w t = 0
 ·have h := qB2.1 c
  have hr := h.vr
  have hr' := hr
  unfold VR at hr'
  have vl := qL3 h
  rw [if_pos c, if_pos c]
  have sl := AD ps (r.Y.B - r.Y.A)
  have sl2 := qHX (ps := ps) (r.Y.B - r.Y.A)
  have kf := vl.kerf
  have hsz : (wW l ds ps r w t).Sizes = (sizes ps (r.Y.B - r.Y.A)).1 := rfl
  have hlen : (wW l ds ps r w t).Len = r.X.B - r.X.A := rfl
  simp only [Option.bind_some, bne_self_eq_false, cond_false]
  rw [show (Line.mk (wW l ds ps r w t).Len (wW l ds ps r w t).Kerf (wW l ds ps r w t).Pitch (wW l ds ps r w t).Sizes (wW l ds ps r w t).Gain (wW l ds ps r w t).Chip (wW l ds ps r w t).Dust) = wW l ds ps r w t from rfl, qPM vl]
  simp only [Option.bind_some, bne_self_eq_false, cond_false]
  rw [qF (n := r.Y.B - r.Y.A) (by omega) (by omega), (qDy ps _).2]
  simp only [Option.bind_some]
  generalize ha : wW l ds ps r w t = a at *
  have ek : w.Kerf = a.Kerf := by rw [← ha]; rfl
  have bl : (wX a).length ≤ 3000 := qGR a 3000 0
  have bm := qGL vl 3000 0 (by have := vl.len; omega)
  have k := zE (wX a).length (fun n (s : List Span × List (List Node)) x => YU r (a, 0) (sizes ps (r.Y.B - r.Y.A)) (wX a, (bst a 0).value, 0) n s.1 s.2 x)
   (fun j s => (s.1 ++ [(ptOf a r.X.A (bdN ps (r.Y.B - r.Y.A)) ((wX a).getD j default)).1], s.2 ++ [(ptOf a r.X.A (bdN ps (r.Y.B - r.Y.A)) ((wX a).getD j default)).2])) (fun s => s)
   (fun j s => s.1 = ((wX a).take j).map (fun x => (ptOf a r.X.A (bdN ps (r.Y.B - r.Y.A)) x).1) ∧ s.2 = ((wX a).take j).map (fun x => (ptOf a r.X.A (bdN ps (r.Y.B - r.Y.A)) x).2)) 0 (by omega) (by omega)
   (fun n j s hj hs => by
    obtain ⟨s1, s2⟩ := s
    obtain ⟨e1, e2⟩ := hs
    simp only at e1 e2
    have tk : (wX a).take (j + 1) = (wX a).take j ++ [(wX a).getD j default] := by rw [List.take_add_one, List.getD_eq_getElem?_getD, List.getElem?_eq_getElem hj]; rfl
    refine ⟨?_, by simp only [e1, tk, List.map_append]; rfl, by simp only [e2, tk, List.map_append]; rfl⟩
    obtain ⟨i, q, ex, hi, hq, hg⟩ := bm _ (JM hj)
    have sz := vl.sz i hi
    rw [hsz] at sz hi
    have hq' : (q : Int) + (sizes ps (r.Y.B - r.Y.A)).1.getD i default ≤ r.X.B - r.X.A := by
     unfold szAt at hq; rw [hsz, hlen] at hq; omega
    simp only
    rw [YU]
    simp only [Int.toNat_natCast, show (wX a).getD j default = ⟨(i : Int), (q : Int)⟩ from ex, hsz]
    rw [decide_eq_true (by omega), qM (by omega) (by omega), qM (by omega) (by omega), qM (by omega) (by omega), qF (n := (q : Int) + _) (by omega) (by omega), qGs hr (by omega) (by omega), zG (by rw [e1]; simp; omega) (by omega)]
    simp only [cond_true, Option.bind_some, qQ (show j < 4611686018427387904 by omega)]
    rw [zG (by rw [e2]; simp; omega) (by omega)]
    simp only [cond_true, Option.bind_some, ptOf, bdN, Int.toNat_natCast, UR, hsz])
   (fun n s _ => by rw [YU]; simp only; rw [decide_eq_false (by omega)]; rfl) ([], []) ⟨rfl, rfl⟩
  rw [show ((0 : Nat) : Int) = 0 from rfl, Nat.sub_zero] at k
  rw [k.1]
  obtain ⟨k2, k3⟩ := k.2
  rw [List.take_length] at k2 k3
  simp only [Option.bind_some]
  rw [k2, k3, show (wX a).map (fun x => (ptOf a r.X.A (bdN ps (r.Y.B - r.Y.A)) x).1) = (QZ ps r a).map Prod.fst by unfold QZ; rw [List.map_map]; rfl, show (wX a).map (fun x => (ptOf a r.X.A (bdN ps (r.Y.B - r.Y.A)) x).2) = (QZ ps r a).map Prod.snd by unfold QZ; rw [List.map_map]; rfl, ek]
  have gd := qEu vl r.X.A (bdN ps (r.Y.B - r.Y.A)) 3000 0 (by have := vl.len; omega)
  have nc := qIk a r.X.A (bdN ps (r.Y.B - r.Y.A)) 1 (wX a) (fun x _ => by simp [bdN])
  rw [hlen, show r.X.A + (r.X.B - r.X.A) = r.X.B by omega, show r.X.A + ((0 : Nat) : Int) = r.X.A by omega] at gd
  replace gd : goodL a.Kerf (axS r 2).B (axS r 2).A (QZ ps r a) := gd
  rw [rRow_eq hr (.inl rfl) kf (by unfold QZ; simp; omega) gd (by unfold QZ; omega)]
  unfold qLk rowR
  rw [show axS r 2 = r.X from rfl]
  simp only [Option.bind_some]
  split
  ·rfl
  ·rfl
 ·rw [if_neg c, if_neg c]
  simp only [Option.bind_some]
  rw [show (chkE l ds ps r w t != 0) = true by rw [bne_iff_ne]; exact c]; rfl
theorem qOz (l : List Slice) (ds : List Defect) (ps : List qC) (r : Rect) (w : Saw) (t : Rates) : (qDW l ds ps r w t).1.length ≤ 1000000 := by
 unfold qDW qLk
 split
 ·split
  ·simp only; omega
  ·simp
 ·simp
theorem qJk (a : qP) {w : Prop} (_ : w) : UJ a = some true := by
 unfold UJ
 obtain ⟨b, e⟩ := qPI a
 rw [e, qOy, qOi]
 simp only [Option.bind_some, qMJ, QB]
 rw [qJh _ (qOz _ _ _ _ _ _)]
 simp only [Option.bind_some, cond_true, beq_self_eq_true]
 cases b <;> rfl
end Saw
end Go.SL
