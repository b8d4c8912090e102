/- Yields: the check, the boards and what becomes of a log. -/
import Derived.Test.YtjobdnkaonbgnaaGreatEMa5
import Derived.Test.YtjobdnkaonbgnaaGreatEMod
import Derived.Test.YtjobdnkaonbgnaaGreatEMa1
set_option linter.unusedVariables false
set_option linter.unusedSimpArgs false
namespace Go.SL.Saw
theorem qNY {p : Product} (h : VP p) : 5 ≤ (zV p).1 ∧ (zV p).1 ≤ 721 ∧ 5 ≤ (zV p).2 ∧ (zV p).2 ≤ 600 := by
 have b := qPL p
 have g := h.gr
 have t := h.th
 have w := h.wd
 have a := h.al
 have e : okG p = true := qJe.2 ⟨by omega, by omega, a⟩
 have g1 := qAJ (n := p.Thick) (a := p.Allow) (by omega) (by omega) a.1 a.2
 have g2 := qAJ (n := p.Width) (a := p.Allow) (by omega) (by omega) a.1 a.2
 have eg : zV p = (qBZ p.Thick p.Allow, qBZ p.Width p.Allow) := by unfold zV; rw [e]; rfl
 rw [eg] at b g ⊢
 simp only at b g ⊢
 omega
noncomputable def chkY (s : List Slice) (d : List Defect) (p : List Product) (pt : Pattern) (w : Saw) (t : Rates) : Int :=
 if LS s ≠ 0 then LS s else if VT d ≠ 0 then VT d else if QE p ≠ 0 then QE p else if IH w t ≠ 0 then IH w t else wB (bdCat p) pt w.Kerf
structure VY (s : List Slice) (d : List Defect) (p : List Product) (pt : Pattern) (w : Saw) (t : Rates) : Prop where
 sol : VSol s
 df : VT d = 0
 pr : QE p = 0
 vw : VW w t
 pat : wB (bdCat p) pt w.Kerf = 0
theorem qJ5 (s : List Slice) (d : List Defect) (p : List Product) (pt : Pattern) (w : Saw) (t : Rates) : VG s d p pt w t = some (chkY s d p pt w t) := by
 unfold VG chkY
 simp only [(MV s).1, qMN, qLo, qPV, qNa, Option.bind_some]
 have k : ∀ (n : Int) (a b : Option Int), (bif n != 0 then a else b) = if n ≠ 0 then a else b := by
  intro n a b
  by_cases h : n = 0
  ·rw [h]; rfl
  ·have : (n != 0) = true := by simpa using h
   rw [this, if_pos h]; rfl
 simp only [k]
 split
 ·rfl
 ·split
  ·rfl
  ·split
   ·rfl
   ·split <;> rfl
theorem IX {s : List Slice} {d : List Defect} {p : List Product} {pt : Pattern} {w : Saw} {t : Rates} : chkY s d p pt w t = 0 ↔ VY s d p pt w t := by
 unfold chkY
 constructor
 ·intro h
  split at h
  ·rename_i c; exact (c h).elim
  ·rename_i c1
   split at h
   ·rename_i c; exact (c h).elim
   ·rename_i c2
    split at h
    ·rename_i c; exact (c h).elim
    ·rename_i c3
     split at h
     ·rename_i c; exact (c h).elim
     ·rename_i c4
      exact ⟨(TU s).1 (by simpa using c1), by simpa using c2, by simpa using c3, (qAz w t).1 (by simpa using c4), h⟩
 ·rintro ⟨h1, h2, h3, h4, h5⟩
  rw [if_neg (by simpa using (TU s).2 h1), if_neg (by simpa using h2), if_neg (by simpa using h3), if_neg (by simpa using (qAz w t).2 h4), h5]
variable {s : List Slice} {d : List Defect} {p : List Product} {pt : Pattern} {w : Saw} {t : Rates}
theorem bd_any {p : List Product} (h : QE p = 0) (r : Rect) (a : Int) (hb : bdCat p r a = 0) : bdAny r a = 0 := by
 have hl := qOK (l := p) (by simpa using h)
 unfold bdCat at hb
 unfold bdAny
 split at hb
 ·cases hb
 ·rw [if_neg (by omega)]
theorem VY.any (h : VY s d p pt w t) : wB bdAny pt w.Kerf = 0 := by
 have hz := FY.1 h.pat
 obtain ⟨T, e1, e2⟩ := qL3 hz.2.2.2
 rw [FY]
 refine ⟨hz.1, hz.2.1, hz.2.2.1, ?_⟩
 rw [e1]
 exact chkP_of (qGt (bd_any h.pr) e2)
/-- The tree of the pattern. -/
theorem VY.tree (h : VY s d p pt w t) : ∃ T, pt.Nodes = zW T ∧ okT (bdCat p) w.Kerf T ⟨pt.Frame, 1⟩ ∧ lvP pt w.Kerf = lvT w.Kerf T ⟨pt.Frame, 1⟩ ∧ ctP pt w.Kerf = ctT w.Kerf T ⟨pt.Frame, 1⟩ := by
 have hz := FY.1 h.pat
 obtain ⟨T, e1, e2⟩ := qL3 hz.2.2.2
 refine ⟨T, e1, e2, ?_, ?_⟩
 ·unfold lvP lvT; rw [e1, qDS LW w.Kerf _ (HH e2)]
 ·unfold ctP ctT; rw [e1, qDS (cutG w.Kerf) w.Kerf _ (HH e2)]
theorem VY.parts (h : VY s d p pt w t) : Parts (bdCat p) pt.Frame (lvP pt w.Kerf) (ctP pt w.Kerf) 127 := by
 have hz := FY.1 h.pat
 obtain ⟨T, e1, e2, e3, e4⟩ := h.tree
 have q := qFv hz.2.1 T _ e2 (VR_WR hz.1)
 rw [e3, e4]
 have hl : (zW T).length ≤ 127 := by rw [← e1]; exact hz.2.2.1
 exact ⟨q.wl, q.wc, q.ap, by have := q.ll; omega, by have := q.lc; omega, q.sum⟩
/-- The board of a leaf. -/
def bdOf (s : List Slice) (d : List Defect) (p : List Product) (step fine : Int) (i : Nat) (x : Leaf) : List Yield_Cut :=
 if x.Product = -1 then [] else
  bif (bestR s d (p.getD x.Product.toNat default) x.Rect step fine).2.1 then [⟨(i : Int), x.Product, ⟨x.Rect.X, x.Rect.Y, (bestR s d (p.getD x.Product.toNat default) x.Rect step fine).2.2⟩, (bestR s d (p.getD x.Product.toNat default) x.Rect step fine).1⟩] else []
def XU (s : List Slice) (d : List Defect) (p : List Product) (step fine : Int) : Nat → List Leaf → List Yield_Cut
 | _, [] => []
 | i, x :: l => bdOf s d p step fine i x ++ XU s d p step fine (i + 1) l
theorem qPJ (step fine : Int) (i : Nat) (x : Leaf) : (bdOf s d p step fine i x).length ≤ 1 := by
 unfold bdOf; split
 ·simp
 ·cases (bestR s d (p.getD x.Product.toNat default) x.Rect step fine).2.1 <;> simp
theorem qF7 (step fine : Int) : ∀ (l : List Leaf) (i : Nat), (XU s d p step fine i l).length ≤ l.length
 | [], _ => Nat.le_refl _
 | x :: l, i => by
  have := qF7 step fine l (i + 1)
  have := qPJ (s := s) (d := d) (p := p) step fine i x
  simp [XU]; omega
/-- A leaf of a board. -/
structure qLm (p : List Product) (x : Leaf) : Prop where
 w : WR x.Rect
 b : x.Product = -1 ∨ bdCat p x.Rect x.Product = 0
theorem qNt {x : Leaf} (hp : QE p = 0) (h : qLm p x) (hx : x.Product ≠ -1) : 0 ≤ x.Product ∧ x.Product < (p.length : Int) ∧ VP (p.getD x.Product.toNat default) ∧ QE [p.getD x.Product.toNat default] = 0 ∧ VR x.Rect ∧ dimOk x.Rect (p.getD x.Product.toNat default) = true := by
 have hb := h.b.resolve_left hx
 unfold bdCat at hb
 split at hb
 ·cases hb
 ·rename_i c
  have hd : dimOk x.Rect (p.getD x.Product.toNat default) = true := by
   cases hh : dimOk x.Rect (p.getD x.Product.toNat default) with
   | true => rfl
   | false => rw [hh] at hb; cases hb
  have hi : x.Product.toNat < p.length := by omega
  have hv := qPQ hp hi
  refine ⟨by omega, by omega, hv, qPl hp hi, ?_, hd⟩
  have g := qNY hv
  obtain ⟨⟨x1, x2, x3⟩, y1, y2, y3⟩ := h.w
  unfold dimOk at hd
  simp only [Bool.or_eq_true, Bool.and_eq_true, beq_iff_eq] at hd
  refine ⟨⟨x1, ?_, x3⟩, y1, ?_, y3⟩ <;> omega
theorem qOB (hs : VSol s) (hd : VT d = 0) (hp : QE p = 0) (hw : 1 ≤ w.Step ∧ w.Step ≤ 20000) {fine : Int} (hf : 0 ≤ fine ∧ fine ≤ 1000000) {lv : List Leaf} (hl : lv.length ≤ 1000) (hg : ∀ x ∈ lv, qLm p x) :
  ZM s d p w fine lv [] = some (0, XU s d p w.Step fine 0 lv) := by
 have key : ∀ (k i n : Nat) (acc : List Yield_Cut), i + k = lv.length → k < n → acc.length ≤ i → zL s d p w fine lv n (i : Int) acc = some (.inr (acc ++ XU s d p w.Step fine i (lv.drop i))) := by
  intro k
  induction k with
  | zero =>
   intro i n acc hi hn _
   obtain ⟨n, rfl⟩ : ∃ m, n = m + 1 := ⟨n - 1, by omega⟩
   unfold zL
   rw [decide_eq_false (by omega), List.drop_eq_nil_of_le (by omega)]
   simp [XU]
  | succ k ih =>
   intro i n acc hi hn ha
   obtain ⟨n, rfl⟩ : ∃ m, n = m + 1 := ⟨n - 1, by omega⟩
   have hil : i < lv.length := by omega
   unfold zL
   rw [decide_eq_true (by omega), zA (by omega) (by omega), OE lv i hil]
   have hx := hg _ (KF hil)
   unfold WC
   rw [zF (by omega)]
   simp only [cond_true, Int.toNat_natCast, XU]
   unfold bdOf
   by_cases c : (lv.getD i default).Product = -1
   ·have e : ((lv.getD i default).Product != -1) = false := by simpa using c
    rw [e, if_pos c, cond_false, ih (i + 1) n acc (by omega) (by omega) (by omega)]
    rfl
   ·have e : ((lv.getD i default).Product != -1) = true := by simpa using c
    obtain ⟨g1, g2, g3, g4, g5, _⟩ := qNt hp hx c
    rw [e, if_neg c, cond_true]
    unfold KD DS
    rw [zA g1 g2, cond_true, qP4 hs hd g4 g3 g5 hw hf]
    simp only [Option.bind_some]
    rw [JN (by omega) (by omega)]
    cases hb : (bestR s d (p.getD (lv.getD i default).Product.toNat default) (lv.getD i default).Rect w.Step fine).2.1 with
    | false =>
     simp only [cond_false, Option.bind_some]
     show zL s d p w fine lv n ((i + 1 : Nat) : Int) acc = _
     rw [ih (i + 1) n acc (by omega) (by omega) (by omega)]
     rfl
    | true =>
     simp only [cond_true, Option.bind_some]
     show zL s d p w fine lv n ((i + 1 : Nat) : Int) _ = _
     rw [ih (i + 1) n _ (by omega) (by omega) (by simp; omega)]
     simp
 unfold ZM
 have e := key lv.length 0 FUEL [] (by omega) (by rw [YF]; omega) (Nat.le_refl _)
 rw [show (0 : Int) = ((0 : Nat) : Int) from rfl, e]
 simp
/-- The boards of a log. -/
def bds (s : List Slice) (d : List Defect) (p : List Product) (pt : Pattern) (w : Saw) (fine : Int) : List Yield_Cut := XU s d p w.Step fine 0 (lvP pt w.Kerf)
theorem VW.fine0 (h : VW w t) : VW w ⟨0, 0, t.Fine⟩ := ⟨h.kerf, h.trim, h.pitch, h.step, by simp, by simp, h.fine⟩
theorem qNL (h : VY s d p pt w t) : ∀ x ∈ lvP pt w.Kerf, qLm p x := fun x hx => ⟨(h.parts.wl x hx).1, (h.parts.wl x hx).2.2⟩
theorem qO8 (h : VY s d p pt w t) : WL s d p pt w t.Fine = some (bds s d p pt w t.Fine, 0) := by
 have hv : VY s d p pt w ⟨0, 0, t.Fine⟩ := ⟨h.sol, h.df, h.pr, h.vw.fine0, h.pat⟩
 unfold WL
 rw [qJ5, IX.2 hv, qPz, if_pos h.any]
 simp only [Option.bind_some, bne_self_eq_false, cond_false]
 unfold PK
 simp only [Option.bind_some]
 rw [qOB h.sol h.df h.pr h.vw.step h.vw.fine (by have := h.parts.ll; omega) (qNL h)]
 rfl
theorem qN4 {fine : Int} (h : ¬ VY s d p pt w ⟨0, 0, fine⟩) : ∃ e, e ≠ 0 ∧ WL s d p pt w fine = some ([], e) ∧ e = chkY s d p pt w ⟨0, 0, fine⟩ := by
 refine ⟨chkY s d p pt w ⟨0, 0, fine⟩, fun e => h (IX.1 e), ?_, rfl⟩
 unfold WL
 rw [qJ5]
 have : (chkY s d p pt w ⟨0, 0, fine⟩ != 0) = true := by
  have : ¬ chkY s d p pt w ⟨0, 0, fine⟩ = 0 := fun e => h (IX.1 e)
  simpa using this
 simp only [Option.bind_some, this, cond_true]
end Go.SL.Saw

namespace Go.SL.Saw
variable {s : List Slice} {d : List Defect} {p : List Product} {pt : Pattern} {w : Saw} {t : Rates}
def frontS (z : Span) (trim : Int) : Span := ⟨imax 0 (z.A - trim), z.A⟩
def backS (z : Span) (trim len : Int) : Span := ⟨z.B, imin (z.B + trim) len⟩
def brdV (s : List Slice) (c : Yield_Cut) : Int := volS s c.Box.X c.Box.Y c.Box.Z
def trmV (s : List Slice) (trim : Int) (c : Yield_Cut) : Int := volS s c.Box.X c.Box.Y (frontS c.Box.Z trim) + volS s c.Box.X c.Box.Y (backS c.Box.Z trim (zT s))
/-- A board that a log can give. -/
structure GoodC (s : List Slice) (c : Yield_Cut) : Prop where
 z : 0 ≤ c.Box.Z.A ∧ c.Box.Z.A < c.Box.Z.B ∧ c.Box.Z.B ≤ zT s
 wth : 0 ≤ c.Worth ∧ c.Worth ≤ 1000000
def cutsV (s : List Slice) (ct : List Rect) : Int := sumL (wholeR s) ct
/-- What becomes of a log. -/
def yB (s : List Slice) (d : List Defect) (p : List Product) (pt : Pattern) (w : Saw) (fine : Int) : Int := sumL (brdV s) (bds s d p pt w fine)
def yD (s : List Slice) (d : List Defect) (p : List Product) (pt : Pattern) (w : Saw) (fine : Int) : Int := cutsV s (ctP pt w.Kerf) + sumL (trmV s w.Trim) (bds s d p pt w fine)
def yW (s : List Slice) (d : List Defect) (p : List Product) (pt : Pattern) (w : Saw) (fine : Int) : Int := sumL (fun c : Yield_Cut => 1000000 * c.Worth) (bds s d p pt w fine)
theorem bds_len (h : VY s d p pt w t) (fine : Int) : (bds s d p pt w fine).length ≤ 127 := by
 have := qF7 (s := s) (d := d) (p := p) w.Step fine (lvP pt w.Kerf) 0
 have := h.parts.ll
 unfold bds; omega
structure YBnd (s : List Slice) (d : List Defect) (p : List Product) (pt : Pattern) (w : Saw) (fine : Int) : Prop where
 nB : 0 ≤ yB s d p pt w fine ∧ yB s d p pt w fine ≤ 28800000000 * 127
 nD : 0 ≤ yD s d p pt w fine ∧ yD s d p pt w fine ≤ 28800000000 * 127 + 57600000000 * 127
 nW : 0 ≤ yW s d p pt w fine ∧ yW s d p pt w fine ≤ 1000000000000 * 127
end Go.SL.Saw

namespace Go.SL
namespace Saw
theorem qBk : FX = some true := by kernel_rfl
end Saw
end Go.SL

namespace Go.SL.Saw
theorem qFx {σ β : Type} (N : Nat) (L : Nat → σ → Int → Option β) (hN : N ≤ 1000000000)
  (h0 : ∀ n i s, i < N → (∃ b, L (n + 1) s (i : Int) = some b) ∨ ∃ s', L (n + 1) s (i : Int) = L n s' ((i + 1 : Nat) : Int))
  (h1 : ∀ n s, ∃ b, L (n + 1) s (N : Int) = some b) (s : σ) : ∃ b, L FUEL s 0 = some b := by
 have key : ∀ (k i n : Nat) (s : σ), i + k = N → k < n → ∃ b, L n s (i : Int) = some b := by
  intro k
  induction k with
  | zero =>
   intro i n s hi hn
   obtain ⟨n, rfl⟩ : ∃ m, n = m + 1 := ⟨n - 1, by omega⟩
   have : i = N := by omega
   subst this; exact h1 n s
  | succ k ih =>
   intro i n s hi hn
   obtain ⟨n, rfl⟩ : ∃ m, n = m + 1 := ⟨n - 1, by omega⟩
   rcases h0 n i s (by omega) with h | ⟨s', h⟩
   ·exact h
   ·rw [h]; exact ih (i + 1) n s' (by omega) (by omega)
 exact key N 0 FUEL s (by omega) (by rw [YF]; omega)
theorem Work_ex (a : Law22_Given) (h1 : a.Solid.length ≤ 1000000) (h2 : a.Products.length ≤ 1000000) : ∃ b, EG a = some b := by
 obtain ⟨u1, e1⟩ := qFx (min a.Solid.length 30) (fun n (s : Int) x => ZC a n s x) (by omega) (fun n i s hi => by
   right
   refine ⟨imin 20000 (w64 (s + (imax 0 (imin 20000 ((a.Solid.getD i default).Len))))), ?_⟩
   rw [ZC, decide_eq_true (by omega), decide_eq_true (by omega)]
   unfold UA
   rw [zA (by omega) (by omega), zF (by omega)]
   rfl) (fun n s => by
   refine ⟨s, ?_⟩
   rw [ZC]
   unfold UA
   by_cases c : a.Solid.length ≤ 30
   ·rw [decide_eq_false (by omega)]; rfl
   ·rw [decide_eq_true (by omega), decide_eq_false (by omega)]; rfl) 0
 obtain ⟨u2, e2⟩ := qFx a.Products.length (fun n (s : Int) x => XV a n s x) (by omega) (fun n i s hi => by
   right
   refine ⟨imax s (imin 10 ((((a.Products.getD i default).Lengths).length : Nat) : Int)), ?_⟩
   rw [XV, decide_eq_true (by omega), zA (by omega) (by omega), zF (by omega)]
   rfl) (fun n s => by
   refine ⟨s, ?_⟩
   rw [XV, decide_eq_false (by omega)]; rfl) 1
 unfold EG LO
 rw [e1, e2]
 simp only [Option.bind_some]
 by_cases c : a.Saw.Step > 0
 ·rw [decide_eq_true c, nz_t (by omega)]; exact ⟨_, rfl⟩
 ·rw [decide_eq_false c]; exact ⟨_, rfl⟩
theorem qOb (a : Law22_Given) : ∃ b, LE a = some b ∧ (b = true → a.Solid.length ≤ 30 ∧ a.Defects.length ≤ 70 ∧ a.Products.length ≤ 20 ∧ a.Pattern.Nodes.length ≤ 140) := by
 have kt : jW a true = some false := rfl
 unfold LE
 by_cases h1 : ((a.Solid.length : Nat) : Int) > 30
 ·rw [decide_eq_true h1]; exact ⟨false, rfl, fun h => by cases h⟩
 rw [decide_eq_false h1]
 by_cases h2 : ((a.Defects.length : Nat) : Int) > 70
 ·rw [decide_eq_true h2]; exact ⟨false, rfl, fun h => by cases h⟩
 rw [decide_eq_false h2]
 by_cases h3 : ((a.Products.length : Nat) : Int) > 20
 ·rw [decide_eq_true h3]; exact ⟨false, rfl, fun h => by cases h⟩
 rw [decide_eq_false h3]
 by_cases h4 : ((a.Pattern.Nodes.length : Nat) : Int) > 140
 ·rw [decide_eq_true h4]; exact ⟨false, rfl, fun h => by cases h⟩
 rw [decide_eq_false h4]
 obtain ⟨wk, ew⟩ := Work_ex a (by omega) (by omega)
 simp only [cond_false, ew, Option.bind_some]
 have hl : a.Solid.length ≤ 30 ∧ a.Defects.length ≤ 70 ∧ a.Products.length ≤ 20 ∧ a.Pattern.Nodes.length ≤ 140 := by omega
 suffices h : ∀ x, ∃ b, jW a x = some b by
  obtain ⟨b, e⟩ := h (decide (wk > 200000))
  exact ⟨b, e, fun _ => hl⟩
 intro x
 unfold jW
 cases x with
 | true => exact ⟨false, rfl⟩
 | false =>
  obtain ⟨u1, e1⟩ := qFx a.Solid.length (fun n (_ : Unit) x => YA a n x) (by omega) (fun n i s hi => by
   rw [YA, decide_eq_true (by omega), zA (by omega) (by omega), zF (by omega)]
   simp only [cond_true]
   cases decide ((((((a.Solid.getD ((i : Int)).toNat default).Sec).Rows).length : Nat) : Int) > 130)
   ·exact .inr ⟨(), rfl⟩
   ·exact .inl ⟨_, rfl⟩) (fun n s => by
   refine ⟨.inr (), ?_⟩
   rw [YA, decide_eq_false (by omega)]; rfl) ()
  obtain ⟨u2, e2⟩ := qFx a.Products.length (fun n (_ : Unit) x => yE a n x) (by omega) (fun n i s hi => by
   rw [yE, decide_eq_true (by omega), zA (by omega) (by omega)]
   unfold RW
   rw [zF (by omega)]
   simp only [cond_true, Int.toNat_natCast]
   cases decide (((((a.Products.getD i default).Lengths).length : Nat) : Int) > 10)
   ·cases decide (((((a.Products.getD i default).Prices).length : Nat) : Int) > 10)
    ·cases decide (((((a.Products.getD i default).Name).size : Nat) : Int) > 100)
     ·exact .inr ⟨(), rfl⟩
     ·exact .inl ⟨_, rfl⟩
    ·exact .inl ⟨_, rfl⟩
   ·exact .inl ⟨_, rfl⟩) (fun n s => by
   refine ⟨.inr (), ?_⟩
   rw [yE, decide_eq_false (by omega)]; rfl) ()
  rw [e1]
  simp only [cond_false, Option.bind_some]
  cases u1 with
  | inl v => exact ⟨v, rfl⟩
  | inr v =>
   rw [Sum.elim_inr, e2]
   simp only [Option.bind_some]
   cases u2 with
   | inl v => exact ⟨v, rfl⟩
   | inr v => exact ⟨true, rfl⟩
end Go.SL.Saw

namespace Go.SL.Saw
variable {s : List Slice} {d : List Defect} {p : List Product} {pt : Pattern} {w : Saw} {t : Rates}
theorem qH1 (s : List Slice) (d : List Defect) (p : List Product) (pt : Pattern) (w : Saw) (t : Rates) : LH s d p pt w t = some (chkY s d p pt w t) := by
 unfold LH chkY
 simp only [(MV s).2, qJD, qEU, qO4, qMY, Option.bind_some]
 have k : ∀ (n : Int) (a b : Option Int), (bif n != 0 then a else b) = if n ≠ 0 then a else b := by
  intro n a b
  by_cases h : n = 0
  ·rw [h]; rfl
  ·have : (n != 0) = true := by simpa using h
   rw [this, if_pos h]; rfl
 simp only [k]
 split
 ·rfl
 ·split
  ·rfl
  ·split
   ·rfl
   ·split <;> rfl
def rcut (c : Yield_Cut) : Ref22_Cut := ⟨c.Leaf, c.Product, c.Box, c.Worth⟩
theorem qN9 (hs : VSol s) (hd : VT d = 0) (hp : QE p = 0) (hw : 1 ≤ w.Step ∧ w.Step ≤ 20000) {fine : Int} (hf : 0 ≤ fine ∧ fine ≤ 1000000) {lv : List Leaf} (hl : lv.length ≤ 1000) (hg : ∀ x ∈ lv, qLm p x) (e : Int) :
  wN s d p w fine (lv, e) FUEL [] 0 = some ((XU s d p w.Step fine 0 lv).map rcut) := by
 have key : ∀ (k i n : Nat) (acc : List Ref22_Cut), i + k = lv.length → k < n → acc.length ≤ i → wN s d p w fine (lv, e) n acc (i : Int) = some (acc ++ (XU s d p w.Step fine i (lv.drop i)).map rcut) := by
  intro k
  induction k with
  | zero =>
   intro i n acc hi hn _
   obtain ⟨n, rfl⟩ : ∃ m, n = m + 1 := ⟨n - 1, by omega⟩
   unfold wN
   rw [decide_eq_false (by simp only; omega), List.drop_eq_nil_of_le (by omega)]
   simp [XU]
  | succ k ih =>
   intro i n acc hi hn ha
   obtain ⟨n, rfl⟩ : ∃ m, n = m + 1 := ⟨n - 1, by omega⟩
   have hil : i < lv.length := by omega
   unfold wN
   rw [decide_eq_true (show (i : Int) < _ by simp only; omega), zA (by omega) (by simp only; omega), OE lv i hil]
   have hx := hg _ (KF hil)
   unfold KS
   rw [zF (by omega)]
   simp only [cond_true, Int.toNat_natCast, XU]
   unfold bdOf
   by_cases c : (lv.getD i default).Product = -1
   ·rw [decide_eq_true (by omega), if_pos c, cond_true, ih (i + 1) n acc (by omega) (by omega) (by omega)]
    rfl
   ·obtain ⟨g1, g2, g3, g4, g5, _⟩ := qNt hp hx c
    rw [decide_eq_false (by omega), if_neg c, cond_false, zA g1 g2, cond_true, qOL hs hd g4 g3 g5 hw hf]
    simp only [Option.bind_some]
    rw [JN (by omega) (by omega)]
    cases hb : (bestR s d (p.getD (lv.getD i default).Product.toNat default) (lv.getD i default).Rect w.Step fine).2.1 with
    | false =>
     simp only [cond_false]
     rw [ih (i + 1) n acc (by omega) (by omega) (by omega)]
     rfl
    | true =>
     simp only [cond_true]
     rw [ih (i + 1) n _ (by omega) (by omega) (by simp; omega)]
     simp [rcut]
 have e' := key lv.length 0 FUEL [] (by omega) (by rw [YF]; omega) (Nat.le_refl _)
 rw [show (0 : Int) = ((0 : Nat) : Int) from rfl, e']
 simp
theorem qOj (h : VY s d p pt w t) : YS s d p pt w t.Fine = some ((bds s d p pt w t.Fine).map rcut, 0) := by
 have hv : VY s d p pt w ⟨0, 0, t.Fine⟩ := ⟨h.sol, h.df, h.pr, h.vw.fine0, h.pat⟩
 unfold YS
 rw [qH1, IX.2 hv, qOm, if_pos h.any]
 simp only [Option.bind_some, bne_self_eq_false, cond_false]
 rw [qN9 h.sol h.df h.pr h.vw.step h.vw.fine (by have := h.parts.ll; omega) (qNL h)]
 rfl
theorem qM0 {fine : Int} (h : ¬ VY s d p pt w ⟨0, 0, fine⟩) : YS s d p pt w fine = some ([], chkY s d p pt w ⟨0, 0, fine⟩) := by
 unfold YS
 rw [qH1]
 have : (chkY s d p pt w ⟨0, 0, fine⟩ != 0) = true := by
  have : ¬ chkY s d p pt w ⟨0, 0, fine⟩ = 0 := fun e => h (IX.1 e)
  simpa using this
 simp only [Option.bind_some, this, cond_true]
theorem qLB (l : List Yield_Cut) (hl : l.length ≤ 1000) : FT l = some (l.map rcut) := by
 unfold FT
 have k := qCm l (fun n (a : List Ref22_Cut) x => YG l n a x) (fun x => (x : Int)) (fun _ c a => a ++ [rcut c]) (fun q => q) (fun x q => q.length ≤ x) (by omega)
  (fun n x q hx hi => by
   refine ⟨?_, by simp; omega⟩
   rw [YG, decide_eq_true (by omega), zA (by omega) (by omega), JN (by omega) (by omega), zF (by omega)]
   simp only [cond_true, Int.toNat_natCast]
   rfl)
  (fun n q _ => by rw [YG]; simp) (i := 0) rfl [] (by simp)
 rw [k.1, qJZ (fun _ c => rcut c), qMy]
 simp
theorem qHv (l : List Ref22_Cut) (hl : l.length ≤ 1000) : EF l l = some true := by
 unfold EF
 have e : (((l.length : Nat) : Int) != ((l.length : Nat) : Int)) = false := by simp
 rw [e, cond_false]
 have key : ∀ (k i n : Nat), i + k = l.length → k < n → XP l l n (i : Int) = some (.inr ()) := by
  intro k
  induction k with
  | zero =>
   intro i n hi hn
   obtain ⟨n, rfl⟩ : ∃ m, n = m + 1 := ⟨n - 1, by omega⟩
   rw [XP, decide_eq_false (by omega)]; rfl
  | succ k ih =>
   intro i n hi hn
   obtain ⟨n, rfl⟩ : ∃ m, n = m + 1 := ⟨n - 1, by omega⟩
   rw [XP, decide_eq_true (by omega), zA (by omega) (by omega), zF (by omega)]
   simp only [cond_true, beq_self_eq_true, Bool.and_self, Bool.not_true, cond_false]
   exact ih (i + 1) n (by omega) (by omega)
 have := key l.length 0 FUEL (by omega) (by rw [YF]; omega)
 rw [show (0 : Int) = ((0 : Nat) : Int) from rfl, this]
 rfl
theorem qG1 (a : Law22_Given) {w : Prop} (_ : w) : PG a = some true := by
 obtain ⟨b, eb, hb⟩ := qOb a
 unfold PG
 rw [eb]
 simp only [Option.bind_some]
 cases b with
 | false => simp only [Bool.not_false, cond_true, qBk, Option.bind_some]
 | true =>
  simp only [Bool.not_true, cond_false]
  unfold BE
  by_cases h : VY a.Solid a.Defects a.Products a.Pattern a.Saw ⟨0, 0, a.Rates.Fine⟩
  ·have e1 := qO8 h
   have e2 := qOj h
   simp only at e1 e2
   have hl := bds_len h a.Rates.Fine
   rw [e1, e2]
   simp only [Option.bind_some]
   rw [qLB _ (by omega)]
   simp only [Option.bind_some]
   rw [qHv _ (by simp; omega)]
   simp only [Option.bind_some, beq_self_eq_true, cond_true, qBk]
   rfl
  ·obtain ⟨e, he, e1, e2⟩ := qN4 h
   rw [e1, qM0 h]
   simp only [Option.bind_some]
   rw [qLB _ (by simp)]
   simp only [Option.bind_some, List.map_nil]
   rw [qHv _ (by simp)]
   simp only [Option.bind_some, e2, beq_self_eq_true, cond_true, qBk]
   rfl
end Go.SL.Saw
