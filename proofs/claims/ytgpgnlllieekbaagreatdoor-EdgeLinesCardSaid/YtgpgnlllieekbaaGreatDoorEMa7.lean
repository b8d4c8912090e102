/- Edge's plain mathematics over the reference, part 5: the laws EdgeLines and EdgeBests. -/
import Derived.Test.YtgpgnlllieekbaaGreatDoorEMa6
set_option linter.unusedVariables false
set_option linter.unusedSimpArgs false
namespace Go.SL
namespace Saw
theorem qM8 {l : List Slice} {ds : List Defect} {p : qA} {r : Rect} {w : Saw} {t : Rates} (hs : VSol l) (hd : WO ds = 0) (hp : wM [p] = 0) (hv : VP p) (hr : VR r) (hw : VW w t) : FX l ds p r w t = some (qBZ l ds p r w t) := by
 unfold FX qBZ
 rw [qMa hs hd hp hv hr hw.step hw.fine]
 have B := qJJ (l := l) (ds := ds) (p := p) (r := r) (step := w.Step) hw.fine.1 hv
 generalize yY l ds p r w.Step t.Fine = b at *
 obtain ⟨v, f, z⟩ := b
 simp only [Option.bind_some] at *
 cases f with
 | false => rfl
 | true =>
  obtain ⟨b1, b2, b3⟩ := B
  have b3 := b3 rfl
  simp only at b1 b2 b3
  simp only [Bool.not_true, cond_false, cond_true]
  have sb := MR hs
  have tr := hw.trim
  rw [(YG l).2, PJ hs]
  simp only [Option.bind_some, qHB hs, qFb hs]
  rw [qJ (n := z.A - w.Trim) (by omega) (by omega), qJ (n := z.B + w.Trim) (by omega) (by omega)]
  have v1 := ID hs r.X r.Y ⟨0, qX l⟩
  have v2 := ID hs r.X r.Y z
  have v3 := ID hs r.X r.Y ⟨imax 0 (z.A - w.Trim), z.A⟩
  have v4 := ID hs r.X r.Y ⟨z.B, imin (z.B + w.Trim) (qX l)⟩
  generalize volS l r.X r.Y ⟨0, qX l⟩ = x1 at *
  generalize volS l r.X r.Y z = x2 at *
  generalize volS l r.X r.Y ⟨imax 0 (z.A - w.Trim), z.A⟩ = x3 at *
  generalize volS l r.X r.Y ⟨z.B, imin (z.B + w.Trim) (qX l)⟩ = x4 at *
  have m1 := yD (a := t.Dust) (b := x3 + x4) (m := 1000) (n := 57600000000) (by have := hw.dust; omega) (by have := hw.dust; omega) (by omega) (by omega) (by omega) (by omega)
  have m2 := yD (a := t.Chip) (b := x1 - x2 - (x3 + x4)) (m := 1000) (n := 86400000000) (by have := hw.chip; omega) (by have := hw.chip; omega) (by omega) (by omega) (by omega) (by omega)
  rw [qJ (n := 1000000 * v) (by omega) (by omega), qJ (n := x3 + x4) (by omega) (by omega), qJ (n := x1 - x2) (by omega) (by omega), qJ (n := x1 - x2 - (x3 + x4)) (by omega) (by omega)]
  generalize t.Dust * (x3 + x4) = y1 at *
  generalize t.Chip * (x1 - x2 - (x3 + x4)) = y2 at *
  rw [qJ (n := y1) (by omega) (by omega), qJ (n := y2) (by omega) (by omega), qJ (n := 1000000 * v + y1) (by omega) (by omega), qJ (by omega) (by omega)]
theorem qKG {l : List Slice} {ds : List Defect} {ps : List qA} {r : Rect} {w : Saw} {t : Rates} (h : VE l ds ps r w t) (z : Int) {j : Nat} (hj : j < (sizes ps z).1.length) :
  jY l ds ps r w t (sizes ps z) (j : Int) FUEL [] 0 = some (BX l ds (ps.getD ((sizes ps z).2.getD j default).toNat default) r w t ((sizes ps z).1.getD j default)) := by
 obtain ⟨s1, s2, i, hi, ei, vp, c1⟩ := qBP h.pr z hj
 have hsl := (qHb h.pr z).len
 have hr := h.vr
 have hr' := hr
 unfold VR at hr'
 have hw := h.vw
 have hp := hw.pitch
 have hd : WO ds = 0 := (YV ds).2 ⟨h.dl, h.dd⟩
 rw [ei, Int.toNat_natCast]
 generalize hsz : (sizes ps z).1.getD j default = sz at *
 have k := zS (wid r - sz + 1).toNat (fun n (s : List Int) x => jY l ds ps r w t (sizes ps z) (j : Int) n s x) (fun x s => s ++ [HW l ds (ps.getD i default) r w t sz x]) (fun s => s)
  (fun x s => s = (List.range x).map (HW l ds (ps.getD i default) r w t sz)) 0 (by omega) (by unfold wid; omega)
  (fun n x s hx hs => by
   unfold wid at hx
   have hlen : s.length = x := by rw [hs]; simp
   refine ⟨?_, by rw [hs, List.range_succ, List.map_append]; rfl⟩
   rw [jY]
   simp only [Int.toNat_natCast, hsz, ei]
   rw [qS (show (0 : Int) ≤ (j : Int) by omega) (show (j : Int) < (((sizes ps z).1.length : Nat) : Int) by omega), qJ (n := (x : Int) + sz) (by omega) (by omega), qJ (n := r.X.B - r.X.A) (by omega) (by omega), decide_eq_true (by omega), nz_t (by omega), qS (by omega) (by omega), qS (by omega) (by omega), qJa hr (by omega) (by omega)]
   simp only [cond_true, Option.bind_some, GX, qU (show x < 4611686018427387904 by omega)]
   rw [jH (by omega) (by omega), qM8 h.sol hd c1 vp (qGw hr (a := (x : Int)) (b := (x : Int) + sz) (by omega) (by omega) (by omega)) hw]
   simp only [cond_true, Option.bind_some, HW]
   have em : Int.tmod (x : Int) w.Pitch = (x : Int) % w.Pitch := Int.tmod_eq_emod_of_nonneg (by omega)
   rw [em]
   by_cases c : (x : Int) % w.Pitch = 0
   ·rw [if_pos c, c]; rfl
   ·rw [if_neg c, show ((x : Int) % w.Pitch == 0) = false by rw [beq_eq_false_iff_ne]; exact c]; rfl)
  (fun n s _ => by
   rw [jY]
   simp only [Int.toNat_natCast, hsz]
   unfold wid
   rw [qS (show (0 : Int) ≤ (j : Int) by omega) (show (j : Int) < (((sizes ps z).1.length : Nat) : Int) by omega), qJ (n := (((r.X.B - r.X.A - sz + 1).toNat : Nat) : Int) + sz) (by omega) (by omega), qJ (n := r.X.B - r.X.A) (by omega) (by omega), decide_eq_false (by omega)]; rfl) [] rfl
 rw [show ((0 : Nat) : Int) = 0 from rfl, Nat.sub_zero] at k
 rw [k.1, k.2]
 rfl
theorem qL0 {l : List Slice} {ds : List Defect} {ps : List qA} {r : Rect} {w : Saw} {t : Rates} (h : VE l ds ps r w t) (z : Int) : WH l ds ps r w t (sizes ps z) FUEL 0 [] = some (qFA l ds ps r w t z) := by
 have hl := (qCy ps z).1
 let g : Nat → List Int := fun j => BX l ds (ps.getD ((sizes ps z).2.getD j default).toNat default) r w t ((sizes ps z).1.getD j default)
 have k := zS (sizes ps z).1.length (fun n (s : List (List Int)) x => WH l ds ps r w t (sizes ps z) n x s) (fun j s => s ++ [g j]) (fun s => s) (fun j s => s = (List.range j).map g) 0 (by omega) (by omega)
  (fun n j s hj hs => by
   have hlen : s.length = j := by rw [hs]; simp
   refine ⟨?_, by rw [hs, List.range_succ, List.map_append]; rfl⟩
   rw [WH, decide_eq_true (by omega), qKG h z hj]
   simp only [cond_true, Option.bind_some]
   rw [jH (by omega) (by omega), qU (by omega)]
   rfl)
  (fun n s _ => by rw [WH, decide_eq_false (by omega)]; rfl) [] rfl
 rw [show ((0 : Nat) : Int) = 0 from rfl, Nat.sub_zero] at k
 rw [k.1, k.2]; rfl
theorem qLZ {l : List Slice} {ds : List Defect} {ps : List qA} {r : Rect} {w : Saw} {t : Rates} (h : VE l ds ps r w t) : WG l r t FUEL 0 [] [] = some ((List.range (wid r).toNat).map (fun x => t.Chip * sliv l r x), (List.range (wid r).toNat).map (fun x => t.Dust * sliv l r x)) := by
 have hr := h.vr
 unfold VR at hr
 have hw := h.vw
 have k := zS (wid r).toNat (fun n (s : List Int × List Int) x => WG l r t n x s.1 s.2) (fun x s => (s.1 ++ [t.Chip * sliv l r x], s.2 ++ [t.Dust * sliv l r x])) (fun s => s)
  (fun x s => s = ((List.range x).map (fun x => t.Chip * sliv l r x), (List.range x).map (fun x => t.Dust * sliv l r x))) 0 (by omega) (by unfold wid; omega)
  (fun n x s hx hs => by
   unfold wid at hx
   subst hs
   have sb := qFi h.sol r x
   have m1 := yD (a := t.Chip) (b := sliv l r x) (m := 1000) (n := 28800000000) (by have := hw.chip; omega) (by have := hw.chip; omega) (by omega) (by omega) (by omega) (by omega)
   have m2 := yD (a := t.Dust) (b := sliv l r x) (m := 1000) (n := 28800000000) (by have := hw.dust; omega) (by have := hw.dust; omega) (by omega) (by omega) (by omega) (by omega)
   refine ⟨?_, by simp only [List.range_succ, List.map_append]; rfl⟩
   simp only
   rw [WG, qJ (n := r.X.B - r.X.A) (by omega) (by omega), decide_eq_true (by omega), qJ (n := (x : Int) + 1) (by omega) (by omega), qJa h.vr (by omega) (by omega)]
   simp only [cond_true, Option.bind_some, qFb h.sol, List.length_map, List.length_range]
   rw [jH (by omega) (by omega)]
   simp only [cond_true]
   rw [show volS l (DG r (x : Int) ((x : Int) + 1)).X (DG r (x : Int) ((x : Int) + 1)).Y ⟨0, qX l⟩ = sliv l r x from rfl, qJ (n := t.Chip * sliv l r x) (by omega) (by omega), qJ (n := t.Dust * sliv l r x) (by omega) (by omega), show (x : Int) + 1 = ((x + 1 : Nat) : Int) by omega])
  (fun n s _ => by
   try simp only
   unfold wid
   rw [WG, qJ (n := r.X.B - r.X.A) (by omega) (by omega), decide_eq_false (by omega)]; rfl) ([], []) rfl
 rw [show ((0 : Nat) : Int) = 0 from rfl, Nat.sub_zero] at k
 rw [k.1, k.2]
theorem qNt (l : List Slice) (ds : List Defect) (ps : List qA) (r : Rect) (w : Saw) (t : Rates) : FR l ds ps r w t = some (IF l ds ps r w t) := by
 unfold FR IF
 rw [qNl]
 simp only [Option.bind_some]
 by_cases c : chkE l ds ps r w t = 0
 ·have h := qCO.1 c
  have hr := h.vr
  unfold VR at hr
  rw [if_pos c, c, qJ (n := r.Y.B - r.Y.A) (by omega) (by omega), (qJz ps _).2, qJ (n := r.X.B - r.X.A) (by omega) (by omega)]
  simp only [bne_self_eq_false, cond_false, Option.bind_some, qL0 h, qLZ h]
  rfl
 ·rw [if_neg c, show (chkE l ds ps r w t != 0) = true by rw [bne_iff_ne]; exact c]; rfl
/-! ### Sameness -/
theorem DM (l : List Int) (h : l.length ≤ 1000000) : yK l l = some true := by
 unfold yK
 rw [bne_self_eq_false, qHo l.length (QJ l l) (by omega) (fun n i hi => ?_) (fun n => ?_)]
 ·rfl
 ·rw [QJ, decide_eq_true (by omega), qS (by omega) (by omega), bne_self_eq_false, qU (by omega)]; rfl
 ·rw [QJ, decide_eq_false (by omega)]; rfl
theorem qCj (a : Line) (h1 : a.Sizes.length ≤ 1000000) (h2 : a.Chip.length ≤ 1000000) (h3 : a.Dust.length ≤ 1000000) (h4 : a.Gain.length ≤ 1000000) (h5 : ∀ i, i < a.Gain.length → (a.Gain.getD i default).length ≤ 1000000) : JC a a = some true := by
 unfold JC wG
 rw [bne_self_eq_false, bne_self_eq_false, bne_self_eq_false, bne_self_eq_false, DM _ h1, DM _ h2, DM _ h3]
 simp only [Option.bind_some, Bool.not_true, cond_false]
 rw [qHo a.Gain.length (QI a a) (by omega) (fun n i hi => ?_) (fun n => ?_)]
 ·rfl
 ·rw [QI, decide_eq_true (by omega), qS (by omega) (by omega), Int.toNat_natCast, DM _ (h5 i hi), qU (by omega)]; rfl
 ·rw [QI, decide_eq_false (by omega)]; rfl
theorem qMh (a : qO) : VA a = some (IF a.Solid a.Defects a.Products a.Strip a.Saw a.Rates) := by
 unfold VA
 rw [Line_eq]; rfl
theorem qLD (l : List Slice) (ds : List Defect) (ps : List qA) (r : Rect) (w : Saw) (t : Rates) : JC (IF l ds ps r w t).1 (IF l ds ps r w t).1 = some true := by
 unfold IF
 by_cases c : chkE l ds ps r w t = 0
 ·rw [if_pos c]
  have v := qM7 (qCO.1 c)
  have ln := v.len
  have := v.cl
  have := v.dl
  have := v.szl
  have := v.gl
  exact qCj _ (by simp only; omega) (by simp only; omega) (by simp only; omega) (by simp only; omega) (fun i hi => by
   have s := v.sz i (by simp only at hi; omega)
   have g := v.gr i (by simp only at hi; omega)
   simp only at hi ⊢
   omega)
 ·rw [if_neg c]
  exact qCj qJR (by decide) (by decide) (by decide) (by decide) (fun i hi => by simp [qJR] at hi)
theorem qGx (a : qO) {w : Prop} (_ : w) : RH a = some true := by
 unfold RH
 obtain ⟨b, e⟩ := qNa a
 rw [e, qMh, qNt]
 simp only [Option.bind_some, qJq, ZO]
 have s := qLD a.Solid a.Defects a.Products a.Strip a.Saw a.Rates
 generalize IF a.Solid a.Defects a.Products a.Strip a.Saw a.Rates = x at *
 rw [show (Line.mk x.1.Len x.1.Kerf x.1.Pitch x.1.Sizes x.1.Gain x.1.Chip x.1.Dust) = x.1 from rfl, s]
 simp only [Option.bind_some, cond_true, beq_self_eq_true]
 cases b <;> rfl
end Saw
end Go.SL
