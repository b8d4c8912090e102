/- Yields: the check, the boards and what becomes of a log. -/
import Derived.Test.YtjobdnkaonbgnaaGreatEMa5
import Derived.Test.YtjobdnkaonbgnaaGreatEMod
import Derived.Test.YtjobdnkaonbgnaaGreatEMa1
set_option linter.unusedVariables false
set_option linter.unusedSimpArgs false
namespace Go.SL.Saw
theorem qO4 {p : Product} (h : VP p) : 5 ≤ (zY p).1 ∧ (zY p).1 ≤ 721 ∧ 5 ≤ (zY p).2 ∧ (zY p).2 ≤ 600 := by
 have b := qQC p
 have g := h.gr
 have t := h.th
 have w := h.wd
 have a := h.al
 have e : okG p = true := qI0.2 ⟨by omega, by omega, a⟩
 have g1 := qA0 (n := p.Thick) (a := p.Allow) (by omega) (by omega) a.1 a.2
 have g2 := qA0 (n := p.Width) (a := p.Allow) (by omega) (by omega) a.1 a.2
 have eg : zY p = (qCV p.Thick p.Allow, qCV p.Width p.Allow) := by unfold zY; rw [e]; rfl
 rw [eg] at b g ⊢
 simp only at b g ⊢
 omega
noncomputable def chkY (s : List Slice) (d : List Defect) (p : List Product) (pt : Pattern) (w : Saw) (t : Rates) : Int :=
 if MG s ≠ 0 then MG s else if GV d ≠ 0 then GV d else if yV p ≠ 0 then yV p else if zbQ w t ≠ 0 then zbQ w t else zS (bdCat p) pt w.Kerf
structure VY (s : List Slice) (d : List Defect) (p : List Product) (pt : Pattern) (w : Saw) (t : Rates) : Prop where
 sol : VSol s
 df : GV d = 0
 pr : yV p = 0
 vw : VW w t
 pat : zS (bdCat p) pt w.Kerf = 0
theorem qEN (s : List Slice) (d : List Defect) (p : List Product) (pt : Pattern) (w : Saw) (t : Rates) : GA s d p pt w t = some (chkY s d p pt w t) := by
 unfold GA chkY
 simp only [(TV s).1, qM7, qMa, qQM, qNL, Option.bind_some]
 have k : ∀ (n : Int) (a b : Option Int), (bif n != 0 then a else b) = if n ≠ 0 then a else b := by
  intro n a b
  by_cases h : n = 0
  ·rw [h]; rfl
  ·have : (n != 0) = true := by simpa using h
   rw [this, if_pos h]; rfl
 simp only [k]
 split
 ·rfl
 ·split
  ·rfl
  ·split
   ·rfl
   ·split <;> rfl
theorem SG {s : List Slice} {d : List Defect} {p : List Product} {pt : Pattern} {w : Saw} {t : Rates} : chkY s d p pt w t = 0 ↔ VY s d p pt w t := by
 unfold chkY
 constructor
 ·intro h
  split at h
  ·rename_i c; exact (c h).elim
  ·rename_i c1
   split at h
   ·rename_i c; exact (c h).elim
   ·rename_i c2
    split at h
    ·rename_i c; exact (c h).elim
    ·rename_i c3
     split at h
     ·rename_i c; exact (c h).elim
     ·rename_i c4
      exact ⟨(YG s).1 (by simpa using c1), by simpa using c2, by simpa using c3, (qAX w t).1 (by simpa using c4), h⟩
 ·rintro ⟨h1, h2, h3, h4, h5⟩
  rw [if_neg (by simpa using (YG s).2 h1), if_neg (by simpa using h2), if_neg (by simpa using h3), if_neg (by simpa using (qAX w t).2 h4), h5]
variable {s : List Slice} {d : List Defect} {p : List Product} {pt : Pattern} {w : Saw} {t : Rates}
theorem bd_any {p : List Product} (h : yV p = 0) (r : Rect) (a : Int) (hb : bdCat p r a = 0) : bdAny r a = 0 := by
 have hl := qPv (l := p) (by simpa using h)
 unfold bdCat at hb
 unfold bdAny
 split at hb
 ·cases hb
 ·rw [if_neg (by omega)]
theorem VY.any (h : VY s d p pt w t) : zS bdAny pt w.Kerf = 0 := by
 have hz := VQ.1 h.pat
 obtain ⟨T, e1, e2⟩ := qMt hz.2.2.2
 rw [VQ]
 refine ⟨hz.1, hz.2.1, hz.2.2.1, ?_⟩
 rw [e1]
 exact chkP_of (qHh (bd_any h.pr) e2)
/-- The tree of the pattern. -/
theorem VY.tree (h : VY s d p pt w t) : ∃ T, pt.Nodes = wA T ∧ okT (bdCat p) w.Kerf T ⟨pt.Frame, 1⟩ ∧ lvP pt w.Kerf = lvT w.Kerf T ⟨pt.Frame, 1⟩ ∧ ctP pt w.Kerf = ctT w.Kerf T ⟨pt.Frame, 1⟩ := by
 have hz := VQ.1 h.pat
 obtain ⟨T, e1, e2⟩ := qMt hz.2.2.2
 refine ⟨T, e1, e2, ?_, ?_⟩
 ·unfold lvP lvT; rw [e1, qDN MQ w.Kerf _ (HT e2)]
 ·unfold ctP ctT; rw [e1, qDN (cutG w.Kerf) w.Kerf _ (HT e2)]
theorem VY.parts (h : VY s d p pt w t) : Parts (bdCat p) pt.Frame (lvP pt w.Kerf) (ctP pt w.Kerf) 127 := by
 have hz := VQ.1 h.pat
 obtain ⟨T, e1, e2, e3, e4⟩ := h.tree
 have q := qFH hz.2.1 T _ e2 (VR_WR hz.1)
 rw [e3, e4]
 have hl : (wA T).length ≤ 127 := by rw [← e1]; exact hz.2.2.1
 exact ⟨q.wl, q.wc, q.ap, by have := q.ll; omega, by have := q.lc; omega, q.sum⟩
/-- The board of a leaf. -/
def bdOf (s : List Slice) (d : List Defect) (p : List Product) (step fine : Int) (i : Nat) (x : Leaf) : List Yield_Cut :=
 if x.Product = -1 then [] else
  bif (bestR s d (p.getD x.Product.toNat default) x.Rect step fine).2.1 then [⟨(i : Int), x.Product, ⟨x.Rect.X, x.Rect.Y, (bestR s d (p.getD x.Product.toNat default) x.Rect step fine).2.2⟩, (bestR s d (p.getD x.Product.toNat default) x.Rect step fine).1⟩] else []
def bdsFrom (s : List Slice) (d : List Defect) (p : List Product) (step fine : Int) : Nat → List Leaf → List Yield_Cut
 | _, [] => []
 | i, x :: l => bdOf s d p step fine i x ++ bdsFrom s d p step fine (i + 1) l
theorem qQB (step fine : Int) (i : Nat) (x : Leaf) : (bdOf s d p step fine i x).length ≤ 1 := by
 unfold bdOf; split
 ·simp
 ·cases (bestR s d (p.getD x.Product.toNat default) x.Rect step fine).2.1 <;> simp
theorem qGl (step fine : Int) : ∀ (l : List Leaf) (i : Nat), (bdsFrom s d p step fine i l).length ≤ l.length
 | [], _ => Nat.le_refl _
 | x :: l, i => by
  have := qGl step fine l (i + 1)
  have := qQB (s := s) (d := d) (p := p) step fine i x
  simp [bdsFrom]; omega
/-- A leaf of a board. -/
structure qFz (p : List Product) (x : Leaf) : Prop where
 w : WR x.Rect
 b : x.Product = -1 ∨ bdCat p x.Rect x.Product = 0
theorem qJ0 {x : Leaf} (hp : yV p = 0) (h : qFz p x) (hx : x.Product ≠ -1) : 0 ≤ x.Product ∧ x.Product < (p.length : Int) ∧ VP (p.getD x.Product.toNat default) ∧ yV [p.getD x.Product.toNat default] = 0 ∧ VR x.Rect ∧ dimOk x.Rect (p.getD x.Product.toNat default) = true := by
 have hb := h.b.resolve_left hx
 unfold bdCat at hb
 split at hb
 ·cases hb
 ·rename_i c
  have hd : dimOk x.Rect (p.getD x.Product.toNat default) = true := by
   cases hh : dimOk x.Rect (p.getD x.Product.toNat default) with
   | true => rfl
   | false => rw [hh] at hb; cases hb
  have hi : x.Product.toNat < p.length := by omega
  have hv := qQF hp hi
  refine ⟨by omega, by omega, hv, qPg hp hi, ?_, hd⟩
  have g := qO4 hv
  obtain ⟨⟨x1, x2, x3⟩, y1, y2, y3⟩ := h.w
  unfold dimOk at hd
  simp only [Bool.or_eq_true, Bool.and_eq_true, beq_iff_eq] at hd
  refine ⟨⟨x1, ?_, x3⟩, y1, ?_, y3⟩ <;> omega
theorem qPs (hs : VSol s) (hd : GV d = 0) (hp : yV p = 0) (hw : 1 ≤ w.Step ∧ w.Step ≤ 20000) {fine : Int} (hf : 0 ≤ fine ∧ fine ≤ 1000000) {lv : List Leaf} (hl : lv.length ≤ 1000) (hg : ∀ x ∈ lv, qFz p x) :
  ZY s d p w fine lv [] = some (0, bdsFrom s d p w.Step fine 0 lv) := by
 have key : ∀ (k i n : Nat) (acc : List Yield_Cut), i + k = lv.length → k < n → acc.length ≤ i → zN s d p w fine lv n (i : Int) acc = some (.inr (acc ++ bdsFrom s d p w.Step fine i (lv.drop i))) := by
  intro k
  induction k with
  | zero =>
   intro i n acc hi hn _
   obtain ⟨n, rfl⟩ : ∃ m, n = m + 1 := ⟨n - 1, by omega⟩
   unfold zN
   rw [decide_eq_false (by omega), List.drop_eq_nil_of_le (by omega)]
   simp [bdsFrom]
  | succ k ih =>
   intro i n acc hi hn ha
   obtain ⟨n, rfl⟩ : ∃ m, n = m + 1 := ⟨n - 1, by omega⟩
   have hil : i < lv.length := by omega
   unfold zN
   rw [decide_eq_true (by omega), qV (by omega) (by omega), OO lv i hil]
   have hx := hg _ (ZQ hil)
   unfold WO
   rw [zA (by omega)]
   simp only [cond_true, Int.toNat_natCast, bdsFrom]
   unfold bdOf
   by_cases c : (lv.getD i default).Product = -1
   ·have e : ((lv.getD i default).Product != -1) = false := by simpa using c
    rw [e, if_pos c, cond_false, ih (i + 1) n acc (by omega) (by omega) (by omega)]
    rfl
   ·have e : ((lv.getD i default).Product != -1) = true := by simpa using c
    obtain ⟨g1, g2, g3, g4, g5, _⟩ := qJ0 hp hx c
    rw [e, if_neg c, cond_true]
    unfold KR PE
    rw [qV g1 g2, cond_true, qQ8 hs hd g4 g3 g5 hw hf]
    simp only [Option.bind_some]
    rw [YD (by omega) (by omega)]
    cases hb : (bestR s d (p.getD (lv.getD i default).Product.toNat default) (lv.getD i default).Rect w.Step fine).2.1 with
    | false =>
     simp only [cond_false, Option.bind_some]
     show zN s d p w fine lv n ((i + 1 : Nat) : Int) acc = _
     rw [ih (i + 1) n acc (by omega) (by omega) (by omega)]
     rfl
    | true =>
     simp only [cond_true, Option.bind_some]
     show zN s d p w fine lv n ((i + 1 : Nat) : Int) _ = _
     rw [ih (i + 1) n _ (by omega) (by omega) (by simp; omega)]
     simp
 unfold ZY
 have e := key lv.length 0 FUEL [] (by omega) (by rw [YW]; omega) (Nat.le_refl _)
 rw [show (0 : Int) = ((0 : Nat) : Int) from rfl, e]
 simp
/-- The boards of a log. -/
def bds (s : List Slice) (d : List Defect) (p : List Product) (pt : Pattern) (w : Saw) (fine : Int) : List Yield_Cut := bdsFrom s d p w.Step fine 0 (lvP pt w.Kerf)
theorem VW.fine0 (h : VW w t) : VW w ⟨0, 0, t.Fine⟩ := ⟨h.kerf, h.trim, h.pitch, h.step, by simp, by simp, h.fine⟩
theorem qJf (h : VY s d p pt w t) : ∀ x ∈ lvP pt w.Kerf, qFz p x := fun x hx => ⟨(h.parts.wl x hx).1, (h.parts.wl x hx).2.2⟩
theorem qPD (h : VY s d p pt w t) : RW s d p pt w t.Fine = some (bds s d p pt w t.Fine, 0) := by
 have hv : VY s d p pt w ⟨0, 0, t.Fine⟩ := ⟨h.sol, h.df, h.pr, h.vw.fine0, h.pat⟩
 unfold RW
 rw [qEN, SG.2 hv, qPj, if_pos h.any]
 simp only [Option.bind_some, bne_self_eq_false, cond_false]
 unfold PQ
 simp only [Option.bind_some]
 rw [qPs h.sol h.df h.pr h.vw.step h.vw.fine (by have := h.parts.ll; omega) (qJf h)]
 rfl
end Go.SL.Saw

namespace Go.SL.Saw
variable {s : List Slice} {d : List Defect} {p : List Product} {pt : Pattern} {w : Saw} {t : Rates}
def qDk (z : Span) (trim : Int) : Span := ⟨imax 0 (z.A - trim), z.A⟩
def qFG (z : Span) (trim len : Int) : Span := ⟨z.B, imin (z.B + trim) len⟩
def brdV (s : List Slice) (c : Yield_Cut) : Int := volS s c.Box.X c.Box.Y c.Box.Z
def trmV (s : List Slice) (trim : Int) (c : Yield_Cut) : Int := volS s c.Box.X c.Box.Y (qDk c.Box.Z trim) + volS s c.Box.X c.Box.Y (qFG c.Box.Z trim (zI s))
/-- A board that a log can give. -/
structure qFK (s : List Slice) (c : Yield_Cut) : Prop where
 z : 0 ≤ c.Box.Z.A ∧ c.Box.Z.A < c.Box.Z.B ∧ c.Box.Z.B ≤ zI s
 wth : 0 ≤ c.Worth ∧ c.Worth ≤ 1000000
theorem qQx (hp : yV p = 0) {step fine : Int} (hf : 0 ≤ fine) {i : Nat} {x : Leaf} (hx : qFz p x) {c : Yield_Cut} (h : c ∈ bdOf s d p step fine i x) : qFK s c ∧ c.Leaf = (i : Int) ∧ c.Box.X = x.Rect.X ∧ c.Box.Y = x.Rect.Y ∧ c.Product = x.Product ∧ x.Product ≠ -1 := by
 unfold bdOf at h
 split at h
 ·exact (List.not_mem_nil h).elim
 ·rename_i c0
  obtain ⟨_, _, g3, _, _, _⟩ := qJ0 hp hx c0
  have bi := qQA (l := s) (ds := d) (p := p.getD x.Product.toNat default) (r := x.Rect) (step := step) (fine := fine) hf g3
  cases hb : (bestR s d (p.getD x.Product.toNat default) x.Rect step fine).2.1 with
  | false => rw [hb, cond_false] at h; exact (List.not_mem_nil h).elim
  | true =>
   rw [hb, cond_true] at h
   simp at h
   subst h
   exact ⟨⟨bi.2.2 hb, bi.1, bi.2.1⟩, rfl, rfl, rfl, rfl, c0⟩
theorem qN4 (hp : yV p = 0) {step fine : Int} (hf : 0 ≤ fine) : ∀ {lv : List Leaf} {i : Nat}, (∀ x ∈ lv, qFz p x) → ∀ c ∈ bdsFrom s d p step fine i lv, qFK s c ∧ (i : Int) ≤ c.Leaf ∧ ∃ x ∈ lv, c.Box.X = x.Rect.X ∧ c.Box.Y = x.Rect.Y ∧ c.Product = x.Product ∧ x.Product ≠ -1
 | [], _, _, c, hc => (List.not_mem_nil hc).elim
 | x :: l, i, hg, c, hc => by
  rcases List.mem_append.1 hc with hc | hc
  ·obtain ⟨a, b, e⟩ := qQx hp hf (hg x List.mem_cons_self) hc
   exact ⟨a, by omega, x, List.mem_cons_self, e⟩
  ·obtain ⟨a, b, y, hy, e⟩ := qN4 hp hf (fun y hy => hg y (List.mem_cons_of_mem _ hy)) c hc
   exact ⟨a, by omega, y, List.mem_cons_of_mem _ hy, e⟩
def qAV (s : List Slice) (ct : List Rect) : Int := sumL (EM s) ct
theorem qDM {α : Type} (F : α → Int) : ∀ (l : List α) (x : Nat) (s : Int), PS (fun _ a s => s + F a) x l s = s + sumL F l
 | [], _, s => by simp [PS, sumL]
 | a :: l, x, s => by
  show PS _ (x + 1) l (s + F a) = _
  rw [qDM F l (x + 1) (s + F a), BY]; omega
theorem qEU {α : Type} (F G H : α → Int) : ∀ (l : List α) (x : Nat) (s : Int × Int × Int), PS (fun _ a s => (s.1 + F a, s.2.1 + G a, s.2.2 + H a)) x l s = (s.1 + sumL F l, s.2.1 + sumL G l, s.2.2 + sumL H l)
 | [], _, s => by simp [PS, sumL]
 | a :: l, x, s => by
  show PS _ (x + 1) l (s.1 + F a, s.2.1 + G a, s.2.2 + H a) = _
  rw [qEU F G H l (x + 1) _, BY, BY, BY]
  simp only [Int.add_assoc]
theorem qOt (h : VSol s) (r : Rect) : 0 ≤ EM s r ∧ EM s r ≤ 28800000000 := qEa h _ _ _
theorem qMW (hs : VSol s) {ct : List Rect} (hl : ct.length ≤ 1000) (e v : Int) : PJ s (ct, e) (zI s) v FUEL 0 0 = some ⟨v, 0, 0, qAV s ct, 0⟩ ∧ 0 ≤ qAV s ct ∧ qAV s ct ≤ 28800000000 * ct.length := by
 have k1 := JB ct (fun n (a : Int) x => PJ s (ct, e) (zI s) v n x a) (fun x => (x : Int)) (fun _ a s' => s' + EM s a) (fun q => (⟨v, 0, 0, q, 0⟩ : Yield)) (fun x q => 0 ≤ q ∧ q ≤ 28800000000 * (x : Int)) (by omega)
  (fun n x a hx hi => by
   have b := qOt hs (ct.getD x default)
   refine ⟨?_, by omega⟩
   rw [PJ, decide_eq_true (show (x : Int) < _ by simp only; omega), qV (by omega) (by simp only; omega), zA (by omega)]
   unfold PE
   simp only [cond_true, Int.toNat_natCast, Option.bind_some, qET hs]
   unfold EM at *
   rw [qL (by omega) (by omega)])
  (fun n a _ => by rw [PJ]; simp) (i := 0) rfl 0 (by omega)
 rw [qDM (EM s), Int.zero_add] at k1
 exact ⟨k1.1, k1.2⟩
theorem trm_b (h : VSol s) (trim : Int) (c : Yield_Cut) : 0 ≤ trmV s trim c ∧ trmV s trim c ≤ 57600000000 := by
 have a := qEa h c.Box.X c.Box.Y (qDk c.Box.Z trim)
 have b := qEa h c.Box.X c.Box.Y (qFG c.Box.Z trim (zI s))
 unfold trmV; omega
theorem qNt (hs : VSol s) (ht : 0 ≤ w.Trim ∧ w.Trim ≤ 20) {b : List Yield_Cut} (hl : b.length ≤ 1000) (hg : ∀ c ∈ b, qFK s c) (e v dd : Int) (hd : 0 ≤ dd ∧ dd ≤ 28800000000 * 1000) :
  PI s w (b, e) (zI s) ⟨v, 0, 0, dd, 0⟩ FUEL 0 0 dd 0 = some ⟨v, sumL (brdV s) b, 0, dd + sumL (trmV s w.Trim) b, sumL (fun c => 1000000 * c.Worth) b⟩
   ∧ (0 ≤ sumL (brdV s) b ∧ sumL (brdV s) b ≤ 28800000000 * b.length) ∧ (0 ≤ sumL (trmV s w.Trim) b ∧ sumL (trmV s w.Trim) b ≤ 57600000000 * b.length) ∧ (0 ≤ sumL (fun c : Yield_Cut => 1000000 * c.Worth) b ∧ sumL (fun c : Yield_Cut => 1000000 * c.Worth) b ≤ 1000000000000 * b.length) := by
 have sl := MZ hs
 have k1 := JB b (fun n (q : Int × Int × Int) x => PI s w (b, e) (zI s) ⟨v, 0, 0, dd, 0⟩ n x q.1 q.2.1 q.2.2) (fun x => (x : Int)) (fun _ a q => (q.1 + brdV s a, q.2.1 + trmV s w.Trim a, q.2.2 + 1000000 * a.Worth)) (fun q => (⟨v, q.1, 0, q.2.1, q.2.2⟩ : Yield))
  (fun x q => (0 ≤ q.1 ∧ q.1 ≤ 28800000000 * (x : Int)) ∧ (dd ≤ q.2.1 ∧ q.2.1 ≤ dd + 57600000000 * (x : Int)) ∧ (0 ≤ q.2.2 ∧ q.2.2 ≤ 1000000000000 * (x : Int))) (by omega)
  (fun n x q hx hi => by
   have b1 := qEa hs (b.getD x default).Box.X (b.getD x default).Box.Y (b.getD x default).Box.Z
   have b2 := qEa hs (b.getD x default).Box.X (b.getD x default).Box.Y (qDk (b.getD x default).Box.Z w.Trim)
   have b3 := qEa hs (b.getD x default).Box.X (b.getD x default).Box.Y (qFG (b.getD x default).Box.Z w.Trim (zI s))
   have g := hg _ (ZQ hx)
   obtain ⟨z1, z2, z3⟩ := g.z
   have gw := g.wth
   have eb : brdV s (b.getD x default) = volS s (b.getD x default).Box.X (b.getD x default).Box.Y (b.getD x default).Box.Z := rfl
   have et : trmV s w.Trim (b.getD x default) = volS s (b.getD x default).Box.X (b.getD x default).Box.Y (qDk (b.getD x default).Box.Z w.Trim) + volS s (b.getD x default).Box.X (b.getD x default).Box.Y (qFG (b.getD x default).Box.Z w.Trim (zI s)) := rfl
   refine ⟨?_, by simp only; rw [eb, et]; omega⟩
   simp only
   rw [PI, decide_eq_true (show (x : Int) < _ by simp only; omega), qV (by omega) (by simp only; omega), zA (by omega)]
   unfold PE
   simp only [cond_true, Int.toNat_natCast, Option.bind_some, qET hs]
   rw [qL (n := (b.getD x default).Box.Z.A - w.Trim) (by omega) (by omega), qL (n := (b.getD x default).Box.Z.B + w.Trim) (by omega) (by omega)]
   rw [eb, et]
   unfold qDk qFG at *
   rw [qL (n := 1000000 * (b.getD x default).Worth) (by omega) (by omega), qL (n := q.1 + _) (by omega) (by omega), qL (n := q.2.1 + _) (by omega) (by omega), qL (n := q.2.1 + _ + _) (by omega) (by omega), qL (n := q.2.2 + _) (by omega) (by omega), Int.add_assoc])
  (fun n q _ => by rw [PI]; simp) (i := 0) rfl (0, dd, 0) (by simp only; omega)
 rw [qEU (brdV s) (trmV s w.Trim) (fun c => 1000000 * c.Worth)] at k1
 simp only [Int.zero_add] at k1
 exact ⟨k1.1, k1.2.1, by have := k1.2.2.1; omega, k1.2.2.2⟩
/-- What becomes of a log. -/
def yB (s : List Slice) (d : List Defect) (p : List Product) (pt : Pattern) (w : Saw) (fine : Int) : Int := sumL (brdV s) (bds s d p pt w fine)
def yD (s : List Slice) (d : List Defect) (p : List Product) (pt : Pattern) (w : Saw) (fine : Int) : Int := qAV s (ctP pt w.Kerf) + sumL (trmV s w.Trim) (bds s d p pt w fine)
def yW (s : List Slice) (d : List Defect) (p : List Product) (pt : Pattern) (w : Saw) (fine : Int) : Int := sumL (fun c : Yield_Cut => 1000000 * c.Worth) (bds s d p pt w fine)
def yC (s : List Slice) (d : List Defect) (p : List Product) (pt : Pattern) (w : Saw) (fine : Int) : Int := volT s - yB s d p pt w fine - yD s d p pt w fine
def qFd (s : List Slice) (d : List Defect) (p : List Product) (pt : Pattern) (w : Saw) (t : Rates) : Yield :=
 ⟨volT s, yB s d p pt w t.Fine, yC s d p pt w t.Fine, yD s d p pt w t.Fine, yW s d p pt w t.Fine + (t.Chip * yC s d p pt w t.Fine + t.Dust * yD s d p pt w t.Fine)⟩
theorem qOf (h : VY s d p pt w t) (fine : Int) : (bds s d p pt w fine).length ≤ 127 := by
 have := qGl (s := s) (d := d) (p := p) w.Step fine (lvP pt w.Kerf) 0
 have := h.parts.ll
 unfold bds; omega
theorem qG3 (h : VY s d p pt w t) : ∀ c ∈ bds s d p pt w t.Fine, qFK s c := fun c hc => (qN4 h.pr h.vw.fine.1 (qJf h) c hc).1
structure YBnd (s : List Slice) (d : List Defect) (p : List Product) (pt : Pattern) (w : Saw) (fine : Int) : Prop where
 nB : 0 ≤ yB s d p pt w fine ∧ yB s d p pt w fine ≤ 28800000000 * 127
 nD : 0 ≤ yD s d p pt w fine ∧ yD s d p pt w fine ≤ 28800000000 * 127 + 57600000000 * 127
 nW : 0 ≤ yW s d p pt w fine ∧ yW s d p pt w fine ≤ 1000000000000 * 127
theorem Of_ok (h : VY s d p pt w t) : HC s d p pt w t = some (qFd s d p pt w t, 0) ∧ YBnd s d p pt w t.Fine := by
 have lb := qOf h t.Fine
 have lc := h.parts.lc
 have ev : valL s = s := VZ h.sol
 obtain ⟨e1, c1, c2⟩ := qMW h.sol (ct := ctP pt w.Kerf) (by omega) 0 (volT s)
 obtain ⟨e2, b1, b2, b3⟩ := qNt (w := w) h.sol h.vw.trim (b := bds s d p pt w t.Fine) (by omega) (qG3 h) 0 (volT s) (qAV s (ctP pt w.Kerf)) (by omega)
 have bd : YBnd s d p pt w t.Fine := ⟨by unfold yB; omega, by unfold yD; omega, by unfold yW; omega⟩
 refine ⟨?_, bd⟩
 unfold HC
 rw [qEN, SG.2 h, qPD h, Cuts_eq, if_pos h.any, (BG s).1, ev, qPX h.sol]
 simp only [Option.bind_some, bne_self_eq_false, cond_false, e1, e2]
 have bv := qPn h.sol
 have bb := bd.nB
 have b4 := bd.nD
 have b5 := bd.nW
 have eC : w64 (w64 (volT s - sumL (brdV s) (bds s d p pt w t.Fine)) - (qAV s (ctP pt w.Kerf) + sumL (trmV s w.Trim) (bds s d p pt w t.Fine))) = yC s d p pt w t.Fine := by
  unfold yC yB yD at *
  rw [qL (n := volT s - _) (by omega) (by omega), qL (by omega) (by omega)]
 rw [eC]
 have hC : -28800000000 * 1000 ≤ yC s d p pt w t.Fine ∧ yC s d p pt w t.Fine ≤ 28800000000 * 1000 := by unfold yC; omega
 have m1 := DW (a := t.Chip) (b := yC s d p pt w t.Fine) (m := 1000) (n := 28800000000 * 1000) (by have := h.vw.chip; omega) (by have := h.vw.chip; omega) (by omega) hC.2 (by omega) (by omega)
 have m2 := DW (a := t.Dust) (b := yD s d p pt w t.Fine) (m := 1000) (n := 28800000000 * 1000) (by have := h.vw.dust; omega) (by have := h.vw.dust; omega) (by omega) (by omega) (by omega) (by omega)
 show some ((⟨volT s, yB s d p pt w t.Fine, _, yD s d p pt w t.Fine, w64 (yW s d p pt w t.Fine + w64 (w64 (t.Chip * yC s d p pt w t.Fine) + w64 (t.Dust * yD s d p pt w t.Fine)))⟩ : Yield), (0 : Int)) = _
 rw [qL (n := t.Chip * _) (by omega) (by omega), qL (n := t.Dust * _) (by omega) (by omega), qL (n := t.Chip * _ + _) (by omega) (by omega), qL (by omega) (by omega)]
 rfl
theorem Of_err (h : ¬ VY s d p pt w t) : HC s d p pt w t = some (⟨0, 0, 0, 0, 0⟩, chkY s d p pt w t) ∧ chkY s d p pt w t ≠ 0 := by
 have hc : ¬ chkY s d p pt w t = 0 := fun e => h (SG.1 e)
 refine ⟨?_, hc⟩
 unfold HC
 rw [qEN]
 have : (chkY s d p pt w t != 0) = true := by simpa using hc
 simp only [Option.bind_some, this, cond_true]
end Go.SL.Saw

namespace Go.SL
namespace Saw
theorem qBB : LV = some true := by kernel_rfl
end Saw
end Go.SL

namespace Go.SL.Saw
theorem qFy {σ β : Type} (N : Nat) (L : Nat → σ → Int → Option β) (hN : N ≤ 1000000000)
  (h0 : ∀ n i s, i < N → (∃ b, L (n + 1) s (i : Int) = some b) ∨ ∃ s', L (n + 1) s (i : Int) = L n s' ((i + 1 : Nat) : Int))
  (h1 : ∀ n s, ∃ b, L (n + 1) s (N : Int) = some b) (s : σ) : ∃ b, L FUEL s 0 = some b := by
 have key : ∀ (k i n : Nat) (s : σ), i + k = N → k < n → ∃ b, L n s (i : Int) = some b := by
  intro k
  induction k with
  | zero =>
   intro i n s hi hn
   obtain ⟨n, rfl⟩ : ∃ m, n = m + 1 := ⟨n - 1, by omega⟩
   have : i = N := by omega
   subst this; exact h1 n s
  | succ k ih =>
   intro i n s hi hn
   obtain ⟨n, rfl⟩ : ∃ m, n = m + 1 := ⟨n - 1, by omega⟩
   rcases h0 n i s (by omega) with h | ⟨s', h⟩
   ·exact h
   ·rw [h]; exact ih (i + 1) n s' (by omega) (by omega)
 exact key N 0 FUEL s (by omega) (by rw [YW]; omega)
theorem Work_ex (a : Law22_Given) (h1 : a.Solid.length ≤ 1000000) (h2 : a.Products.length ≤ 1000000) : ∃ b, ED a = some b := by
 obtain ⟨u1, e1⟩ := qFy (min a.Solid.length 30) (fun n (s : Int) x => ZN a n s x) (by omega) (fun n i s hi => by
   right
   refine ⟨imin 20000 (w64 (s + (imax 0 (imin 20000 ((a.Solid.getD i default).Len))))), ?_⟩
   rw [ZN, decide_eq_true (by omega), decide_eq_true (by omega)]
   unfold UM
   rw [qV (by omega) (by omega), zA (by omega)]
   rfl) (fun n s => by
   refine ⟨s, ?_⟩
   rw [ZN]
   unfold UM
   by_cases c : a.Solid.length ≤ 30
   ·rw [decide_eq_false (by omega)]; rfl
   ·rw [decide_eq_true (by omega), decide_eq_false (by omega)]; rfl) 0
 obtain ⟨u2, e2⟩ := qFy a.Products.length (fun n (s : Int) x => KD a n s x) (by omega) (fun n i s hi => by
   right
   refine ⟨imax s (imin 10 ((((a.Products.getD i default).Lengths).length : Nat) : Int)), ?_⟩
   rw [KD, decide_eq_true (by omega), qV (by omega) (by omega), zA (by omega)]
   rfl) (fun n s => by
   refine ⟨s, ?_⟩
   rw [KD, decide_eq_false (by omega)]; rfl) 1
 unfold ED MJ
 rw [e1, e2]
 simp only [Option.bind_some]
 by_cases c : a.Saw.Step > 0
 ·rw [decide_eq_true c, nz_t (by omega)]; exact ⟨_, rfl⟩
 ·rw [decide_eq_false c]; exact ⟨_, rfl⟩
theorem qOB (a : Law22_Given) : ∃ b, LO a = some b ∧ (b = true → a.Solid.length ≤ 30 ∧ a.Defects.length ≤ 70 ∧ a.Products.length ≤ 20 ∧ a.Pattern.Nodes.length ≤ 140) := by
 have kt : yL a true = some false := rfl
 unfold LO
 by_cases h1 : ((a.Solid.length : Nat) : Int) > 30
 ·rw [decide_eq_true h1]; exact ⟨false, rfl, fun h => by cases h⟩
 rw [decide_eq_false h1]
 by_cases h2 : ((a.Defects.length : Nat) : Int) > 70
 ·rw [decide_eq_true h2]; exact ⟨false, rfl, fun h => by cases h⟩
 rw [decide_eq_false h2]
 by_cases h3 : ((a.Products.length : Nat) : Int) > 20
 ·rw [decide_eq_true h3]; exact ⟨false, rfl, fun h => by cases h⟩
 rw [decide_eq_false h3]
 by_cases h4 : ((a.Pattern.Nodes.length : Nat) : Int) > 140
 ·rw [decide_eq_true h4]; exact ⟨false, rfl, fun h => by cases h⟩
 rw [decide_eq_false h4]
 obtain ⟨wk, ew⟩ := Work_ex a (by omega) (by omega)
 simp only [cond_false, ew, Option.bind_some]
 have hl : a.Solid.length ≤ 30 ∧ a.Defects.length ≤ 70 ∧ a.Products.length ≤ 20 ∧ a.Pattern.Nodes.length ≤ 140 := by omega
 suffices h : ∀ x, ∃ b, yL a x = some b by
  obtain ⟨b, e⟩ := h (decide (wk > 200000))
  exact ⟨b, e, fun _ => hl⟩
 intro x
 unfold yL
 cases x with
 | true => exact ⟨false, rfl⟩
 | false =>
  obtain ⟨u1, e1⟩ := qFy a.Solid.length (fun n (_ : Unit) x => YU a n x) (by omega) (fun n i s hi => by
   rw [YU, decide_eq_true (by omega), qV (by omega) (by omega), zA (by omega)]
   simp only [cond_true]
   cases decide ((((((a.Solid.getD ((i : Int)).toNat default).Sec).Rows).length : Nat) : Int) > 130)
   ·exact .inr ⟨(), rfl⟩
   ·exact .inl ⟨_, rfl⟩) (fun n s => by
   refine ⟨.inr (), ?_⟩
   rw [YU, decide_eq_false (by omega)]; rfl) ()
  obtain ⟨u2, e2⟩ := qFy a.Products.length (fun n (_ : Unit) x => yA a n x) (by omega) (fun n i s hi => by
   rw [yA, decide_eq_true (by omega), qV (by omega) (by omega)]
   unfold TF
   rw [zA (by omega)]
   simp only [cond_true, Int.toNat_natCast]
   cases decide (((((a.Products.getD i default).Lengths).length : Nat) : Int) > 10)
   ·cases decide (((((a.Products.getD i default).Prices).length : Nat) : Int) > 10)
    ·cases decide (((((a.Products.getD i default).Name).size : Nat) : Int) > 100)
     ·exact .inr ⟨(), rfl⟩
     ·exact .inl ⟨_, rfl⟩
    ·exact .inl ⟨_, rfl⟩
   ·exact .inl ⟨_, rfl⟩) (fun n s => by
   refine ⟨.inr (), ?_⟩
   rw [yA, decide_eq_false (by omega)]; rfl) ()
  rw [e1]
  simp only [cond_false, Option.bind_some]
  cases u1 with
  | inl v => exact ⟨v, rfl⟩
  | inr v =>
   rw [Sum.elim_inr, e2]
   simp only [Option.bind_some]
   cases u2 with
   | inl v => exact ⟨v, rfl⟩
   | inr v => exact ⟨true, rfl⟩
def VG (a : Law22_Given) : Prop := VY a.Solid a.Defects a.Products a.Pattern a.Saw a.Rates
def yG (a : Law22_Given) : Yield := qFd a.Solid a.Defects a.Products a.Pattern a.Saw a.Rates
theorem of22_ok {a : Law22_Given} (h : VG a) : BA a = some (yG a, 0) := by
 unfold BA yG; rw [(Of_ok h).1]; rfl
end Go.SL.Saw

namespace Go.SL.Saw
variable {s : List Slice} {d : List Defect} {p : List Product} {pt : Pattern} {w : Saw} {t : Rates}
theorem qD3 (s : List Slice) (d : List Defect) (p : List Product) (pt : Pattern) (w : Saw) (t : Rates) : VM s d p pt w t = some (chkY s d p pt w t) := by
 unfold VM chkY
 simp only [(TV s).2, qKT, qES, qPN, qNw, Option.bind_some]
 have k : ∀ (n : Int) (a b : Option Int), (bif n != 0 then a else b) = if n ≠ 0 then a else b := by
  intro n a b
  by_cases h : n = 0
  ·rw [h]; rfl
  ·have : (n != 0) = true := by simpa using h
   rw [this, if_pos h]; rfl
 simp only [k]
 split
 ·rfl
 ·split
  ·rfl
  ·split
   ·rfl
   ·split <;> rfl
def rcut (c : Yield_Cut) : Ref22_Cut := ⟨c.Leaf, c.Product, c.Box, c.Worth⟩
theorem qOH (hs : VSol s) (hd : GV d = 0) (hp : yV p = 0) (hw : 1 ≤ w.Step ∧ w.Step ≤ 20000) {fine : Int} (hf : 0 ≤ fine ∧ fine ≤ 1000000) {lv : List Leaf} (hl : lv.length ≤ 1000) (hg : ∀ x ∈ lv, qFz p x) (e : Int) :
  wQ s d p w fine (lv, e) FUEL [] 0 = some ((bdsFrom s d p w.Step fine 0 lv).map rcut) := by
 have key : ∀ (k i n : Nat) (acc : List Ref22_Cut), i + k = lv.length → k < n → acc.length ≤ i → wQ s d p w fine (lv, e) n acc (i : Int) = some (acc ++ (bdsFrom s d p w.Step fine i (lv.drop i)).map rcut) := by
  intro k
  induction k with
  | zero =>
   intro i n acc hi hn _
   obtain ⟨n, rfl⟩ : ∃ m, n = m + 1 := ⟨n - 1, by omega⟩
   unfold wQ
   rw [decide_eq_false (by simp only; omega), List.drop_eq_nil_of_le (by omega)]
   simp [bdsFrom]
  | succ k ih =>
   intro i n acc hi hn ha
   obtain ⟨n, rfl⟩ : ∃ m, n = m + 1 := ⟨n - 1, by omega⟩
   have hil : i < lv.length := by omega
   unfold wQ
   rw [decide_eq_true (show (i : Int) < _ by simp only; omega), qV (by omega) (by simp only; omega), OO lv i hil]
   have hx := hg _ (ZQ hil)
   unfold KX
   rw [zA (by omega)]
   simp only [cond_true, Int.toNat_natCast, bdsFrom]
   unfold bdOf
   by_cases c : (lv.getD i default).Product = -1
   ·rw [decide_eq_true (by omega), if_pos c, cond_true, ih (i + 1) n acc (by omega) (by omega) (by omega)]
    rfl
   ·obtain ⟨g1, g2, g3, g4, g5, _⟩ := qJ0 hp hx c
    rw [decide_eq_false (by omega), if_neg c, cond_false, qV g1 g2, cond_true, qQj hs hd g4 g3 g5 hw hf]
    simp only [Option.bind_some]
    rw [YD (by omega) (by omega)]
    cases hb : (bestR s d (p.getD (lv.getD i default).Product.toNat default) (lv.getD i default).Rect w.Step fine).2.1 with
    | false =>
     simp only [cond_false]
     rw [ih (i + 1) n acc (by omega) (by omega) (by omega)]
     rfl
    | true =>
     simp only [cond_true]
     rw [ih (i + 1) n _ (by omega) (by omega) (by simp; omega)]
     simp [rcut]
 have e' := key lv.length 0 FUEL [] (by omega) (by rw [YW]; omega) (Nat.le_refl _)
 rw [show (0 : Int) = ((0 : Nat) : Int) from rfl, e']
 simp
theorem qOT (h : VY s d p pt w t) : NF s d p pt w t.Fine = some ((bds s d p pt w t.Fine).map rcut, 0) := by
 have hv : VY s d p pt w ⟨0, 0, t.Fine⟩ := ⟨h.sol, h.df, h.pr, h.vw.fine0, h.pat⟩
 unfold NF
 rw [qD3, SG.2 hv, qOW, if_pos h.any]
 simp only [Option.bind_some, bne_self_eq_false, cond_false]
 rw [qOH h.sol h.df h.pr h.vw.step h.vw.fine (by have := h.parts.ll; omega) (qJf h)]
 rfl
theorem qQ4 (s : qK) : EZ s = some (XI (PT s)) := by
 have h := qDH s
 unfold EZ
 rw [qKB s]
 simp only [Option.bind_some]
 generalize PT s = t at *
 have b := h.len
 have k2 := JB t.Rows (fun n (a : Int) x => KJ t n a x) (fun x => (x : Int)) (fun _ a s => s + 10 * lenS a) (fun s => s) (fun x s => 0 ≤ s ∧ s ≤ 12000 * (x : Int)) (by omega)
  (fun n x a hx hi => by
   have l := h.len_b hx
   refine ⟨?_, by omega⟩
   rw [KJ, decide_eq_true (show (x : Int) < _ by omega), qV (by omega) (by omega), zA (by omega)]
   simp only [cond_true, Int.toNat_natCast]
   rw [l.2.2, qL (n := lenS _) (by omega) (by omega), qL (n := 10 * lenS _) (by omega) (by omega), qL (by omega) (by omega)])
  (fun n a _ => by rw [KJ]; simp) (i := 0) rfl 0 (by omega)
 rw [NE (fun _ a => 10 * lenS a), qMm] at k2
 have e := qDP h (fun _ a => lenS a) (fun _ => rfl)
 rw [e, Int.zero_add] at k2
 rw [k2.1]
 rfl
theorem qO7 {l : List Slice} (h : VSol l) : DT l = some (volT l) := by
 have hl := h.len
 unfold DT
 rw [(TV l).2, (YG l).2 h]
 simp only [Option.bind_some, bne_self_eq_false, cond_false]
 have k1 := JB l (fun n (a : Int) x => JF l n a x) (fun x => (x : Int)) (fun _ a s => s + a.Len * XI a.Sec) (fun s => s) (fun x s => s = sumN x (fun i => (l.getD i default).Len * XI (l.getD i default).Sec)) (by omega)
  (fun n x a hx hi => by
   have p := HY h (k := x) (by omega)
   have p' := HY h (k := x + 1) (by omega)
   have b1 := (h.bd (i := x) (by omega)).2
   have b2 := (h.bd (i := x + 1) (by omega)).2
   have vs := (h.at hx).1
   have ar := qH6 vs
   have ln := (h.at hx).2.2.1
   have l2 : (l.getD x default).Len ≤ 20000 := by have := zH l x; have := (h.bd (i := x) (by omega)).1; omega
   have pr := Int.mul_le_mul l2 ar.2 ar.1 (by omega)
   have pn := Int.mul_nonneg (show 0 ≤ (l.getD x default).Len by omega) ar.1
   refine ⟨?_, by rw [hi]; rfl⟩
   rw [JF, decide_eq_true (show (x : Int) < _ by omega), qV (by omega) (by omega), zA (by omega)]
   simp only [cond_true, Int.toNat_natCast, qQ4, Option.bind_some]
   rw [AV vs]
   rw [qL (n := (l.getD x default).Len * XI (l.getD x default).Sec) (by omega) (by omega), qL (by omega) (by omega)])
  (fun n a _ => by rw [JF]; simp) (i := 0) rfl 0 rfl
 rw [k1.1, NE (fun _ (a : Slice) => a.Len * XI a.Sec), Int.zero_add]
 simp only [Option.bind_some, Nat.zero_add]
 rfl
theorem qQU (hs : VSol s) {trim : Int} (ht : 0 ≤ trim ∧ trim ≤ 20) {c : Yield_Cut} (hc : qFK s c) : UY s c.Box trim = some (trmV s trim c) := by
 have sl := MZ hs
 obtain ⟨z1, z2, z3⟩ := hc.z
 have tb := trm_b hs trim c
 unfold UY
 rw [(BG s).2, VZ hs]
 simp only [Option.bind_some, CE hs]
 rw [qL (n := c.Box.Z.A - trim) (by omega) (by omega), qL (n := c.Box.Z.B + trim) (by omega) (by omega)]
 unfold trmV qDk qFG at *
 rw [qL (by omega) (by omega)]
theorem qQk {b : List Yield_Cut} {x : Nat} (h : x < b.length) : (b.map rcut).getD x default = rcut (b.getD x default) := qQL rcut b h
theorem qQe (hs : VSol s) (ht : 0 ≤ w.Trim ∧ w.Trim ≤ 20) {b : List Yield_Cut} (hl : b.length ≤ 1000) (hg : ∀ c ∈ b, qFK s c) (e v : Int) :
  PL s w (b.map rcut, e) v FUEL 0 0 0 0 = some (sumL (fun c : Yield_Cut => c.Worth) b, ⟨v, sumL (brdV s) b, 0, sumL (trmV s w.Trim) b, 0⟩) := by
 have sl := MZ hs
 have hlm : (b.map rcut).length = b.length := by simp
 have k1 := JB b (fun n (q : Int × Int × Int) x => PL s w (b.map rcut, e) v n q.2.2 x q.1 q.2.1) (fun x => (x : Int)) (fun _ a q => (q.1 + brdV s a, q.2.1 + trmV s w.Trim a, q.2.2 + a.Worth)) (fun q => ((q.2.2, ⟨v, q.1, 0, q.2.1, 0⟩) : Int × Yield))
  (fun x q => (0 ≤ q.1 ∧ q.1 ≤ 28800000000 * (x : Int)) ∧ (0 ≤ q.2.1 ∧ q.2.1 ≤ 57600000000 * (x : Int)) ∧ (0 ≤ q.2.2 ∧ q.2.2 ≤ 1000000 * (x : Int))) (by omega)
  (fun n x q hx hi => by
   have b1 := qEa hs (b.getD x default).Box.X (b.getD x default).Box.Y (b.getD x default).Box.Z
   have b2 := trm_b hs w.Trim (b.getD x default)
   have g := hg _ (ZQ hx)
   have gw := g.wth
   have eb : brdV s (b.getD x default) = volS s (b.getD x default).Box.X (b.getD x default).Box.Y (b.getD x default).Box.Z := rfl
   refine ⟨?_, by simp only; rw [eb]; omega⟩
   rw [PL, decide_eq_true (show (x : Int) < _ by simp only [hlm]; omega), qV (by omega) (by simp only [hlm]; omega), zA (by omega)]
   simp only [cond_true, Int.toNat_natCast, qQk hx]
   have e1 : (rcut (b.getD x default)).Box = (b.getD x default).Box := rfl
   have e2 : (rcut (b.getD x default)).Worth = (b.getD x default).Worth := rfl
   rw [e1, e2, qQU hs ht g, CE hs]
   simp only [Option.bind_some]
   rw [eb, qL (n := q.2.2 + _) (by omega) (by omega), qL (n := q.1 + _) (by omega) (by omega), qL (by omega) (by omega)])
  (fun n q _ => by rw [PL]; simp [hlm]) (i := 0) rfl (0, 0, 0) (by simp only; omega)
 rw [qEU (brdV s) (trmV s w.Trim) (fun c => c.Worth)] at k1
 simp only [Int.zero_add] at k1
 exact k1.1
theorem qPp (hs : VSol s) {ct : List Rect} (hl : ct.length ≤ 1000) (e : Int) (o : Int × Yield) (hd : 0 ≤ o.2.Dust ∧ o.2.Dust ≤ 57600000000 * 1000) : PO s (ct, e) o FUEL 0 o.2.Dust = some ⟨o.2.Log, o.2.Boards, o.2.Chips, o.2.Dust + qAV s ct, o.2.Value⟩ := by
 have k1 := JB ct (fun n (a : Int) x => PO s (ct, e) o n x a) (fun x => (x : Int)) (fun _ a s' => s' + EM s a) (fun q => (⟨o.2.Log, o.2.Boards, o.2.Chips, q, o.2.Value⟩ : Yield)) (fun x q => o.2.Dust ≤ q ∧ q ≤ o.2.Dust + 28800000000 * (x : Int)) (by omega)
  (fun n x a hx hi => by
   have b := qOt hs (ct.getD x default)
   refine ⟨?_, by omega⟩
   rw [PO, decide_eq_true (show (x : Int) < _ by simp only; omega), qV (by omega) (by simp only; omega), zA (by omega)]
   unfold IS
   rw [(BG s).2, VZ hs]
   simp only [cond_true, Int.toNat_natCast, Option.bind_some, CE hs]
   unfold EM at *
   rw [qL (by omega) (by omega)])
  (fun n a _ => by rw [PO]; simp) (i := 0) rfl o.2.Dust (by omega)
 rw [qDM (EM s)] at k1
 exact k1.1
theorem rOf_ok (h : VY s d p pt w t) : MR s d p pt w t = some (qFd s d p pt w t, 0) := by
 have lb := qOf h t.Fine
 have lc := h.parts.lc
 have bd := (Of_ok h).2
 have bb := bd.nB
 have b4 := bd.nD
 have b5 := bd.nW
 have bv := qPn h.sol
 obtain ⟨_, c1, c2⟩ := qMW h.sol (ct := ctP pt w.Kerf) (by omega) 0 (volT s)
 obtain ⟨_, q1, q2, q3⟩ := qNt (w := w) h.sol h.vw.trim (b := bds s d p pt w t.Fine) (by omega) (qG3 h) 0 (volT s) (qAV s (ctP pt w.Kerf)) (by omega)
 have e1 := qQe (w := w) h.sol h.vw.trim (b := bds s d p pt w t.Fine) (by omega) (qG3 h) 0 (volT s)
 have e2 := qPp h.sol (ct := ctP pt w.Kerf) (by omega) 0 (sumL (fun c : Yield_Cut => c.Worth) (bds s d p pt w t.Fine), ⟨volT s, sumL (brdV s) (bds s d p pt w t.Fine), 0, sumL (trmV s w.Trim) (bds s d p pt w t.Fine), 0⟩) (by simp only; omega)
 unfold MR
 rw [qD3, SG.2 h, qOT h, qQy, if_pos h.any, qO7 h.sol]
 simp only [Option.bind_some, bne_self_eq_false, cond_false, e1]
 simp only at e2
 rw [e2]
 simp only [Option.bind_some]
 have hD : sumL (trmV s w.Trim) (bds s d p pt w t.Fine) + qAV s (ctP pt w.Kerf) = yD s d p pt w t.Fine := by unfold yD; omega
 have hB : sumL (brdV s) (bds s d p pt w t.Fine) = yB s d p pt w t.Fine := rfl
 have hW : 1000000 * sumL (fun c : Yield_Cut => c.Worth) (bds s d p pt w t.Fine) = yW s d p pt w t.Fine := by unfold yW; rw [qNa]
 rw [hD, hB, hW]
 have eC : w64 (w64 (volT s - yB s d p pt w t.Fine) - yD s d p pt w t.Fine) = yC s d p pt w t.Fine := by
  unfold yC
  rw [qL (n := volT s - _) (by omega) (by omega), qL (by omega) (by omega)]
 rw [eC]
 have hC : -28800000000 * 1000 ≤ yC s d p pt w t.Fine ∧ yC s d p pt w t.Fine ≤ 28800000000 * 1000 := by unfold yC; omega
 have m1 := DW (a := t.Chip) (b := yC s d p pt w t.Fine) (m := 1000) (n := 28800000000 * 1000) (by have := h.vw.chip; omega) (by have := h.vw.chip; omega) (by omega) hC.2 (by omega) (by omega)
 have m2 := DW (a := t.Dust) (b := yD s d p pt w t.Fine) (m := 1000) (n := 28800000000 * 1000) (by have := h.vw.dust; omega) (by have := h.vw.dust; omega) (by omega) (by omega) (by omega) (by omega)
 rw [qL (n := yW s d p pt w t.Fine) (by omega) (by omega), qL (n := t.Chip * _) (by omega) (by omega), qL (n := t.Dust * _) (by omega) (by omega), qL (n := yW s d p pt w t.Fine + _) (by omega) (by omega), qL (by omega) (by omega)]
 unfold qFd
 rw [Int.add_assoc]
theorem rOf_err (h : ¬ VY s d p pt w t) : MR s d p pt w t = some (⟨0, 0, 0, 0, 0⟩, chkY s d p pt w t) := by
 have hc : ¬ chkY s d p pt w t = 0 := fun e => h (SG.1 e)
 unfold MR
 rw [qD3]
 have : (chkY s d p pt w t != 0) = true := by simpa using hc
 simp only [Option.bind_some, this, cond_true]
theorem qMd (a : Law22_Given) {w : Prop} (_ : w) : MH a = some true := by
 obtain ⟨b, eb, hb⟩ := qOB a
 unfold MH
 rw [eb]
 simp only [Option.bind_some]
 cases b with
 | false => simp only [Bool.not_false, cond_true, qBB, Option.bind_some]
 | true =>
  simp only [Bool.not_true, cond_false]
  by_cases h : VG a
  ·rw [of22_ok h, rOf_ok h]
   simp only [Option.bind_some]
   have e : qFd a.Solid a.Defects a.Products a.Pattern a.Saw a.Rates = yG a := rfl
   rw [e]
   simp only [beq_self_eq_true, Bool.and_self, cond_true, qBB, Option.bind_some]
   rfl
  ·have e1 := (Of_err h).1
   unfold BA
   rw [e1, rOf_err h]
   simp only [Option.bind_some, beq_self_eq_true, Bool.and_self, cond_true, qBB]
   rfl
end Go.SL.Saw
