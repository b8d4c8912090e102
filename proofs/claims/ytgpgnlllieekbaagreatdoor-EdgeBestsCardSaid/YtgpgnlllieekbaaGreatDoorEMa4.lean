/- Edge's plain mathematics, part 12: the line of a strip. -/
import Derived.Test.YtgpgnlllieekbaaGreatDoorEMa3
set_option linter.unusedVariables false
set_option linter.unusedSimpArgs false
namespace Go.SL
namespace Saw
structure SzI (l : List qC) (x : Nat) (s : List Int × List Int) : Prop where
 len : s.1.length = s.2.length
 le : s.1.length ≤ x
 at_ : ∀ j, j < s.1.length → ∃ i : Nat, i < x ∧ s.2.getD j default = (i : Int) ∧ (s.1.getD j default = (zA (l.getD i default)).1 ∨ s.1.getD j default = (zA (l.getD i default)).2)
theorem qJP {α : Type} [Inhabited α] {l : List α} {x : α} {i : Nat} (h : i ≤ l.length) : (l ++ [x]).getD i default = if i < l.length then l.getD i default else x := by
 simp only [List.getD_eq_getElem?_getD, List.getElem?_append]
 by_cases c : i < l.length
 ·simp [c]
 ·have : i = l.length := by omega
  subst this; simp
theorem qL9 {l : List qC} {x : Nat} {s : List Int × List Int} (h : SzI l x s) {v : Int} (hv : v = (zA (l.getD x default)).1 ∨ v = (zA (l.getD x default)).2) : SzI l (x + 1) (s.1 ++ [v], s.2 ++ [(x : Int)]) := by
 have h1 := h.len
 have h2 := h.le
 refine ⟨by simp [h1], by simp; omega, fun j hj => ?_⟩
 simp only [List.length_append, List.length_cons, List.length_nil] at hj
 simp only
 rw [qJP (by omega), qJP (by omega)]
 by_cases c : j < s.1.length
 ·rw [if_pos c, if_pos (by omega)]
  obtain ⟨i, a, b, d⟩ := h.at_ j c
  exact ⟨i, by omega, b, d⟩
 ·rw [if_neg c, if_neg (by omega)]
  exact ⟨x, by omega, rfl, hv⟩
theorem qQp {l : List qC} {x : Nat} {s : List Int × List Int} (h : SzI l x s) : SzI l (x + 1) s := ⟨h.len, by have := h.le; omega, fun j hj => by obtain ⟨i, a, b⟩ := h.at_ j hj; exact ⟨i, by omega, b⟩⟩
theorem qJp {l : List qC} (hc : wZ l = 0) (t : Int) : SzI l l.length (sizes l t) := by
 unfold sizes
 rw [if_neg (by omega)]
 have : ∀ k, SzI l k (foldN (sizStep l t) 0 k ([], [])) := by
  intro k
  induction k with
  | zero => exact ⟨rfl, by simp [foldN], fun j hj => by simp [foldN] at hj⟩
  | succ k ih =>
   rw [yM, Nat.zero_add]
   unfold sizStep
   cases (zA (l.getD k default)).1 == t with
   | true => exact qL9 ih (.inr rfl)
   | false => cases (zA (l.getD k default)).2 == t with
    | true => exact qL9 ih (.inl rfl)
    | false => exact qQp ih
 exact this _
theorem qPg {p : qC} (h : VP p) : 5 ≤ (zA p).1 ∧ (zA p).1 ≤ 721 ∧ 5 ≤ (zA p).2 ∧ (zA p).2 ≤ 600 := by
 have b := qPB p
 have g := h.gr
 have t := h.th
 have w := h.wd
 have a := h.al
 have e : okG p = true := qIq.2 ⟨by omega, by omega, a⟩
 have g1 := qAc (n := p.Thick) (a := p.Allow) (by omega) (by omega) a.1 a.2
 have g2 := qAc (n := p.Width) (a := p.Allow) (by omega) (by omega) a.1 a.2
 have eg : zA p = (qBI p.Thick p.Allow, qBI p.Width p.Allow) := by unfold zA; rw [e]; rfl
 rw [eg] at b g ⊢
 simp only at b g ⊢
 omega
theorem qDL {l : List qC} (hc : wZ l = 0) (t : Int) {j : Nat} (hj : j < (sizes l t).1.length) : 5 ≤ (sizes l t).1.getD j default ∧ (sizes l t).1.getD j default ≤ 721 ∧ ∃ i : Nat, i < l.length ∧ (sizes l t).2.getD j default = (i : Int) ∧ VP (l.getD i default) ∧ wZ [l.getD i default] = 0 := by
 obtain ⟨i, a, b, c⟩ := (qJp hc t).at_ j hj
 have v := qQl hc a
 have g := qPg v
 refine ⟨by omega, by omega, i, a, b, v, qO8 hc a⟩
def UR (r : Rect) (a b : Int) : Rect := ⟨⟨r.X.A + a, r.X.A + b⟩, r.Y⟩
theorem qIO {r : Rect} (h : VR r) {a b : Int} (h1 : -2000 ≤ a ∧ a ≤ 2000) (h2 : -2000 ≤ b ∧ b ≤ 2000) : GH r a b = some (UR r a b) := by
 unfold VR at h
 unfold GH UR
 rw [qF (by omega) (by omega), qF (by omega) (by omega)]
theorem qI9 {r : Rect} (h : VR r) {a b : Int} (h1 : 0 ≤ a) (h2 : a < b) (h3 : b ≤ r.X.B - r.X.A) : VR (UR r a b) := by
 unfold VR at *
 unfold UR
 simp only
 omega
def wid (r : Rect) : Int := r.X.B - r.X.A
def AU (l : List Slice) (ds : List Defect) (p : qC) (r : Rect) (w : Saw) (t : Rates) (sz : Int) (x : Nat) : Int :=
 if (x : Int) % w.Pitch = 0 then qDw l ds p (UR r x (x + sz)) w t else -1
def LJ (l : List Slice) (ds : List Defect) (p : qC) (r : Rect) (w : Saw) (t : Rates) (sz : Int) : List Int := (List.range (wid r - sz + 1).toNat).map (AU l ds p r w t sz)
theorem qN7 {l : List Slice} {ds : List Defect} {ps : List qC} {r : Rect} {w : Saw} {t : Rates} (h : VE l ds ps r w t) (z : Int) {j : Nat} (hj : j < (sizes ps z).1.length) :
  QU l ds ps r w t (sizes ps z) (j : Int) FUEL [] 0 = some (LJ l ds (ps.getD ((sizes ps z).2.getD j default).toNat default) r w t ((sizes ps z).1.getD j default)) := by
 obtain ⟨s1, s2, i, hi, ei, vp, c1⟩ := qDL h.pr z hj
 have hsl := (qJp h.pr z).len
 have hr := h.vr
 have hr' := hr
 unfold VR at hr'
 have hw := h.vw
 have hp := hw.pitch
 have hd : JG ds = 0 := (KA ds).2 ⟨h.dl, h.dd⟩
 rw [ei, Int.toNat_natCast]
 generalize hsz : (sizes ps z).1.getD j default = sz at *
 have k := zE (wid r - sz + 1).toNat (fun n (s : List Int) x => QU l ds ps r w t (sizes ps z) (j : Int) n s x) (fun x s => s ++ [AU l ds (ps.getD i default) r w t sz x]) (fun s => s)
  (fun x s => s = (List.range x).map (AU l ds (ps.getD i default) r w t sz)) 0 (by omega) (by unfold wid; omega)
  (fun n x s hx hs => by
   unfold wid at hx
   have hlen : s.length = x := by rw [hs]; simp
   refine ⟨?_, by rw [hs, List.range_succ, List.map_append]; rfl⟩
   rw [QU]
   simp only [Int.toNat_natCast, hsz, ei]
   rw [qF (n := (x : Int) + sz) (by omega) (by omega), qF (n := r.X.B - r.X.A) (by omega) (by omega), decide_eq_true (by omega), nz_t (by omega), qM (by omega) (by omega), qM (by omega) (by omega), qIO hr (by omega) (by omega)]
   simp only [cond_true, Option.bind_some, MK, qQ (show x < 4611686018427387904 by omega)]
   rw [zG (by omega) (by omega), (qNJ h.sol hd c1 vp (qI9 hr (a := (x : Int)) (b := (x : Int) + sz) (by omega) (by omega) (by omega)) hw).1]
   simp only [cond_true, Option.bind_some, AU]
   have em : Int.tmod (x : Int) w.Pitch = (x : Int) % w.Pitch := Int.tmod_eq_emod_of_nonneg (by omega)
   rw [em]
   by_cases c : (x : Int) % w.Pitch = 0
   ·rw [if_pos c, c]; rfl
   ·rw [if_neg c, show ((x : Int) % w.Pitch == 0) = false by rw [beq_eq_false_iff_ne]; exact c]; rfl)
  (fun n s _ => by
   rw [QU]
   simp only [Int.toNat_natCast, hsz]
   unfold wid
   rw [qF (n := (((r.X.B - r.X.A - sz + 1).toNat : Nat) : Int) + sz) (by omega) (by omega), qF (n := r.X.B - r.X.A) (by omega) (by omega), decide_eq_false (by omega)]; rfl) [] rfl
 rw [show ((0 : Nat) : Int) = 0 from rfl, Nat.sub_zero] at k
 rw [k.1, k.2]
 rfl
def sliv (l : List Slice) (r : Rect) (x : Nat) : Int := volS l (UR r x (x + 1)).X r.Y ⟨0, qY l⟩
def qH5 (l : List Slice) (ds : List Defect) (ps : List qC) (r : Rect) (w : Saw) (t : Rates) (z : Int) : List (List Int) :=
 (List.range (sizes ps z).1.length).map (fun j => LJ l ds (ps.getD ((sizes ps z).2.getD j default).toNat default) r w t ((sizes ps z).1.getD j default))
def wW (l : List Slice) (ds : List Defect) (ps : List qC) (r : Rect) (w : Saw) (t : Rates) : Line :=
 ⟨wid r, w.Kerf, 1, (sizes ps (r.Y.B - r.Y.A)).1, qH5 l ds ps r w t (r.Y.B - r.Y.A), (List.range (wid r).toNat).map (fun x => t.Chip * sliv l r x), (List.range (wid r).toNat).map (fun x => t.Dust * sliv l r x)⟩
theorem qP2 {l : List Slice} {ds : List Defect} {ps : List qC} {r : Rect} {w : Saw} {t : Rates} (h : VE l ds ps r w t) (z : Int) : YI l ds ps r w t (sizes ps z) FUEL 0 [] = some (qH5 l ds ps r w t z) := by
 have hl := (AD ps z).1
 let g : Nat → List Int := fun j => LJ l ds (ps.getD ((sizes ps z).2.getD j default).toNat default) r w t ((sizes ps z).1.getD j default)
 have k := zE (sizes ps z).1.length (fun n (s : List (List Int)) x => YI l ds ps r w t (sizes ps z) n x s) (fun j s => s ++ [g j]) (fun s => s) (fun j s => s = (List.range j).map g) 0 (by omega) (by omega)
  (fun n j s hj hs => by
   have hlen : s.length = j := by rw [hs]; simp
   refine ⟨?_, by rw [hs, List.range_succ, List.map_append]; rfl⟩
   rw [YI, decide_eq_true (by omega), qM (by omega) (by omega), qN7 h z hj, zG (by omega) (by omega), qQ (by omega)]
   rfl)
  (fun n s _ => by rw [YI, decide_eq_false (by omega)]; rfl) [] rfl
 rw [show ((0 : Nat) : Int) = 0 from rfl, Nat.sub_zero] at k
 rw [k.1, k.2]; rfl
theorem qHv {l : List Slice} (h : VSol l) (r : Rect) (x : Nat) : 0 ≤ sliv l r x ∧ sliv l r x ≤ 28800000000 := qAb h _ _ _
theorem qP7 {l : List Slice} {ds : List Defect} {ps : List qC} {r : Rect} {w : Saw} {t : Rates} (h : VE l ds ps r w t) : YE l r t (qY l) FUEL 0 [] [] = some ((List.range (wid r).toNat).map (fun x => t.Chip * sliv l r x), (List.range (wid r).toNat).map (fun x => t.Dust * sliv l r x)) := by
 have hr := h.vr
 unfold VR at hr
 have hw := h.vw
 have k := zE (wid r).toNat (fun n (s : List Int × List Int) x => YE l r t (qY l) n x s.1 s.2) (fun x s => (s.1 ++ [t.Chip * sliv l r x], s.2 ++ [t.Dust * sliv l r x])) (fun s => s)
  (fun x s => s = ((List.range x).map (fun x => t.Chip * sliv l r x), (List.range x).map (fun x => t.Dust * sliv l r x))) 0 (by omega) (by unfold wid; omega)
  (fun n x s hx hs => by
   unfold wid at hx
   subst hs
   have sb := qHv h.sol r x
   have m1 := yX (a := t.Chip) (b := sliv l r x) (m := 1000) (n := 28800000000) (by have := hw.chip; omega) (by have := hw.chip; omega) (by omega) (by omega) (by omega) (by omega)
   have m2 := yX (a := t.Dust) (b := sliv l r x) (m := 1000) (n := 28800000000) (by have := hw.dust; omega) (by have := hw.dust; omega) (by omega) (by omega) (by omega) (by omega)
   refine ⟨?_, by simp only [List.range_succ, List.map_append]; rfl⟩
   simp only
   rw [YE, qF (n := r.X.B - r.X.A) (by omega) (by omega), decide_eq_true (by omega), qF (n := (x : Int) + 1) (by omega) (by omega), qIO h.vr (by omega) (by omega)]
   simp only [cond_true, Option.bind_some, qO0 h.sol, List.length_map, List.length_range]
   rw [zG (by omega) (by omega)]
   simp only [cond_true]
   rw [show volS l (UR r (x : Int) ((x : Int) + 1)).X (UR r (x : Int) ((x : Int) + 1)).Y ⟨0, qY l⟩ = sliv l r x from rfl, qF (n := t.Chip * sliv l r x) (by omega) (by omega), qF (n := t.Dust * sliv l r x) (by omega) (by omega), show (x : Int) + 1 = ((x + 1 : Nat) : Int) by omega])
  (fun n s _ => by
   try simp only
   unfold wid
   rw [YE, qF (n := r.X.B - r.X.A) (by omega) (by omega), decide_eq_false (by omega)]; rfl) ([], []) rfl
 rw [show ((0 : Nat) : Int) = 0 from rfl, Nat.sub_zero] at k
 rw [k.1, k.2]
def noLine : Line := ⟨0, 0, 0, [], [], [], []⟩
open Classical in
noncomputable def qFn (l : List Slice) (ds : List Defect) (ps : List qC) (r : Rect) (w : Saw) (t : Rates) : Line × Int := if chkE l ds ps r w t = 0 then (wW l ds ps r w t, 0) else (noLine, chkE l ds ps r w t)
theorem Line_eq (l : List Slice) (ds : List Defect) (ps : List qC) (r : Rect) (w : Saw) (t : Rates) : LH l ds ps r w t = some (qFn l ds ps r w t) := by
 unfold LH qFn
 rw [chkE_eq]
 simp only [Option.bind_some]
 by_cases c : chkE l ds ps r w t = 0
 ·have h := qB2.1 c
  have hr := h.vr
  unfold VR at hr
  rw [if_pos c, c, qF (n := r.Y.B - r.Y.A) (by omega) (by omega), (qDy ps _).1, (XW l).1, TN h.sol, qF (n := r.X.B - r.X.A) (by omega) (by omega)]
  simp only [bne_self_eq_false, cond_false, Option.bind_some, qP2 h, qP7 h]
  rfl
 ·rw [if_neg c, show (chkE l ds ps r w t != 0) = true by rw [bne_iff_ne]; exact c]; rfl
def okN (n : Int) : Prop := -1125899906842624 ≤ n ∧ n ≤ 1125899906842624
/-- A line that may be cut. -/
structure VL (a : Line) : Prop where
 len : 0 ≤ a.Len ∧ a.Len ≤ 2000
 kerf : 0 ≤ a.Kerf ∧ a.Kerf ≤ 20
 pitch : 1 ≤ a.Pitch ∧ a.Pitch ≤ 2000
 szl : a.Sizes.length ≤ 32
 sz : ∀ i, i < a.Sizes.length → 1 ≤ a.Sizes.getD i default ∧ a.Sizes.getD i default ≤ 2000
 gl : a.Gain.length = a.Sizes.length
 cl : (a.Chip.length : Int) = a.Len
 dl : (a.Dust.length : Int) = a.Len
 gr : ∀ i, i < a.Sizes.length → (a.Gain.getD i default).length = (a.Len - a.Sizes.getD i default + 1).toNat
 gb : ∀ i, i < a.Sizes.length → ∀ j, j < (a.Gain.getD i default).length → okN ((a.Gain.getD i default).getD j default)
 cb : ∀ j, j < a.Chip.length → okN (a.Chip.getD j default)
 db : ∀ j, j < a.Dust.length → okN (a.Dust.getD j default)
theorem qL3 {l : List Slice} {ds : List Defect} {ps : List qC} {r : Rect} {w : Saw} {t : Rates} (h : VE l ds ps r w t) : VL (wW l ds ps r w t) := by
 have hr := h.vr
 unfold VR at hr
 have hw := h.vw
 have sl := AD ps (r.Y.B - r.Y.A)
 have hd : JG ds = 0 := (KA ds).2 ⟨h.dl, h.dd⟩
 have gl : (wW l ds ps r w t).Gain.length = (sizes ps (r.Y.B - r.Y.A)).1.length := by unfold wW qH5; simp
 have ga : ∀ i, i < (sizes ps (r.Y.B - r.Y.A)).1.length → (wW l ds ps r w t).Gain.getD i default = LJ l ds (ps.getD ((sizes ps (r.Y.B - r.Y.A)).2.getD i default).toNat default) r w t ((sizes ps (r.Y.B - r.Y.A)).1.getD i default) := fun i hi => by
  unfold wW qH5; simp only; rw [ZY _ hi]
 have wb : wid r = r.X.B - r.X.A := rfl
 refine ⟨by show 0 ≤ wid r ∧ wid r ≤ 2000; omega, hw.kerf, ⟨show (1 : Int) ≤ 1 by decide, show (1 : Int) ≤ 2000 by decide⟩, by show (sizes ps (r.Y.B - r.Y.A)).1.length ≤ 32; omega, fun i hi => ?_, gl, ?_, ?_, fun i hi => ?_, fun i hi j hj => ?_, fun j hj => ?_, fun j hj => ?_⟩
 ·have := qDL h.pr (r.Y.B - r.Y.A) hi
  show 1 ≤ (sizes ps (r.Y.B - r.Y.A)).1.getD i default ∧ (sizes ps (r.Y.B - r.Y.A)).1.getD i default ≤ 2000
  omega
 ·show (((List.range (wid r).toNat).map _).length : Int) = wid r; simp; omega
 ·show (((List.range (wid r).toNat).map _).length : Int) = wid r; simp; omega
 ·rw [ga i hi]; unfold LJ; simp; rfl
 ·have hi' : i < (sizes ps (r.Y.B - r.Y.A)).1.length := hi
  rw [ga i hi'] at hj ⊢
  obtain ⟨s1, s2, k, hk, ek, vp, c1⟩ := qDL h.pr (r.Y.B - r.Y.A) hi'
  unfold LJ at hj ⊢
  simp only [List.length_map, List.length_range] at hj
  rw [ZY _ hj, ek, Int.toNat_natCast]
  unfold AU
  split
  ·exact (qNJ h.sol hd c1 vp (qI9 h.vr (by omega) (by omega) (by omega)) hw).2
  ·exact ⟨by decide, by decide⟩
 ·have hj' : j < (wid r).toNat := by simpa [wW] using hj
  show okN (((List.range (wid r).toNat).map (fun x => t.Chip * sliv l r x)).getD j default)
  rw [ZY _ hj']
  have sb := qHv h.sol r j
  have m1 := yX (a := t.Chip) (b := sliv l r j) (m := 1000) (n := 28800000000) (by have := hw.chip; omega) (by have := hw.chip; omega) (by omega) (by omega) (by omega) (by omega)
  unfold okN; omega
 ·have hj' : j < (wid r).toNat := by simpa [wW] using hj
  show okN (((List.range (wid r).toNat).map (fun x => t.Dust * sliv l r x)).getD j default)
  rw [ZY _ hj']
  have sb := qHv h.sol r j
  have m1 := yX (a := t.Dust) (b := sliv l r j) (m := 1000) (n := 28800000000) (by have := hw.dust; omega) (by have := hw.dust; omega) (by omega) (by omega) (by omega) (by omega)
  unfold okN; omega
theorem KD {ε : Type} (N : Nat) (L : Nat → Int → Option (ε ⊕ Unit)) (hN : N ≤ 1000000000) (h0 : ∀ n i, i < N → L (n + 1) (i : Int) = L n ((i + 1 : Nat) : Int)) (h1 : ∀ n, L (n + 1) (N : Int) = some (.inr ())) : L FUEL 0 = some (.inr ()) := by
 have k := wO N L (fun _ => none) 0 (by omega) hN (fun n i _ hi => h0 n i hi) h1
 rw [JE.2 (fun _ _ _ => rfl)] at k
 exact k
theorem qMH {g : List (List Int)} (hl : g.length ≤ 1000000) (h : ∀ i, i < g.length → (g.getD i default).length ≤ 1000000 ∧ ∀ j, j < (g.getD i default).length → okN ((g.getD i default).getD j default)) : YR g = some true := by
 unfold YR
 rw [KD g.length (ZM g) (by omega) (fun n i hi => ?_) (fun n => ?_)]
 ·rfl
 ·obtain ⟨a, b⟩ := h i hi
  rw [ZM, decide_eq_true (by omega), qM (by omega) (by omega), KD (g.getD i default).length (jN g (i : Int)) (by omega) (fun n j hj => ?_) (fun n => ?_)]
  ·simp only [cond_true, Option.bind_some, Sum.elim_inr, qQ (show i < 4611686018427387904 by omega)]
  ·have o := b j hj
   unfold okN at o
   rw [jN]
   simp only [Int.toNat_natCast, RI]
   rw [decide_eq_true (by omega), qM (by omega) (by omega), decide_eq_false (show ¬ (g.getD i default).getD j default < -1125899906842624 by omega), decide_eq_false (show ¬ (g.getD i default).getD j default > 1125899906842624 by omega), qQ (by omega)]
   rfl
  ·rw [jN]
   simp only [Int.toNat_natCast]
   rw [decide_eq_false (by omega)]; rfl
 ·rw [ZM, decide_eq_false (by omega)]; rfl
theorem qM1 {a : Line} (h : VL a) : RY a = some 0 := by
 have h1 := h.len
 have h2 := h.kerf
 have h3 := h.pitch
 have h4 := h.szl
 have h5 := h.gl
 have h6 := h.cl
 have h7 := h.dl
 have M : YC a = some 0 := by
  unfold YC wM
  rw [decide_eq_false (show ¬ a.Len < 0 by omega), decide_eq_false (show ¬ a.Len > 2000 by omega), decide_eq_false (show ¬ a.Kerf < 0 by omega), decide_eq_false (show ¬ a.Kerf > 20 by omega), decide_eq_false (show ¬ a.Pitch < 1 by omega), decide_eq_false (show ¬ a.Pitch > 2000 by omega), decide_eq_false (show ¬ ((a.Sizes.length : Nat) : Int) > 32 by omega)]
  simp only [cond_false]
  rw [KD a.Sizes.length (wN a) (by omega) (fun n i hi => ?_) (fun n => ?_)]
  ·rfl
  ·have := h.sz i hi
   rw [wN, decide_eq_true (by omega), qM (by omega) (by omega)]
   simp only [cond_true, Int.toNat_natCast, YM, qQ (show i < 4611686018427387904 by omega)]
   rw [decide_eq_false (show ¬ a.Sizes.getD i default < 1 by omega), decide_eq_false (show ¬ a.Sizes.getD i default > 2000 by omega)]
   rfl
  ·rw [wN, decide_eq_false (by omega)]; rfl
 unfold RY YD RS
 rw [M]
 simp only [Option.bind_some, bne_self_eq_false, cond_false]
 rw [show (((a.Gain.length : Nat) : Int) != ((a.Sizes.length : Nat) : Int)) = false by rw [bne_eq_false_iff_eq]; omega, show (((a.Chip.length : Nat) : Int) != a.Len) = false by rw [bne_eq_false_iff_eq]; omega, show (((a.Dust.length : Nat) : Int) != a.Len) = false by rw [bne_eq_false_iff_eq]; omega]
 simp only [cond_false]
 rw [KD a.Gain.length (ZL a) (by omega) (fun n i hi => ?_) (fun n => ?_), qMH (by omega) (fun i hi => ⟨?_, fun j hj => h.gb i (by omega) j hj⟩), qMH (by simp) (fun i hi => ?_)]
 ·rfl
 ·match i, hi with
  | 0, _ => exact ⟨by show a.Chip.length ≤ 1000000; omega, h.cb⟩
  | 1, _ => exact ⟨by show a.Dust.length ≤ 1000000; omega, h.db⟩
  | i + 2, hi => simp at hi; omega
 ·rw [h.gr i (by omega)]; have := h.sz i (by omega); omega
 ·have s := h.sz i (by omega)
  have g := h.gr i (by omega)
  rw [ZL, decide_eq_true (by omega), qM (by omega) (by omega), qM (by omega) (by omega)]
  simp only [cond_true, Int.toNat_natCast, qQ (show i < 4611686018427387904 by omega), DF, Option.bind_some]
  rw [qF (n := a.Len - a.Sizes.getD i default) (by omega) (by omega), qF (by omega) (by omega), g]
  have m := ZB 0 (a.Len - a.Sizes.getD i default + 1)
  rw [show ((((a.Len - a.Sizes.getD i default + 1).toNat : Nat) : Int) != imax 0 (a.Len - a.Sizes.getD i default + 1)) = false by rw [bne_eq_false_iff_eq]; omega]
  rfl
 ·rw [ZL, decide_eq_false (by omega)]; rfl
def pre (c : List Int) (k : Nat) : Int := sumN k (fun i => c.getD i default)
theorem SR (c : List Int) (k : Nat) : pre c (k + 1) = pre c k + c.getD k default := rfl
theorem HH {c : List Int} (h : ∀ j, j < c.length → okN (c.getD j default)) : ∀ {k : Nat}, k ≤ c.length → -(1125899906842624 * (k : Int)) ≤ pre c k ∧ pre c k ≤ 1125899906842624 * (k : Int)
 | 0, _ => by simp [pre, sumN]
 | k + 1, hk => by
  have a := HH h (k := k) (by omega)
  have b := h k (by omega)
  unfold okN at b
  rw [SR]; omega
def sums (c : List Int) : List Int := (List.range (c.length + 1)).map (pre c)
theorem qNL {c : List Int} (hl : c.length ≤ 2000) (h : ∀ j, j < c.length → okN (c.getD j default)) : PA c = some (sums c) := by
 unfold PA
 rw [qF (n := ((c.length : Nat) : Int) + 1) (by omega) (by omega), show ((c.length : Nat) : Int) + 1 = ((c.length + 1 : Nat) : Int) by omega, qEP (by omega) (by omega), Int.toNat_natCast]
 simp only [cond_true]
 have k := zE c.length (fun n (s : List Int) i => WT c n s i) (fun i s => s.set (i + 1) (pre c (i + 1))) (fun s => s) (fun i s => s.length = c.length + 1 ∧ ∀ j, j ≤ i → s.getD j default = pre c j) 0 (by omega) (by omega)
  (fun n i s hi hs => by
   obtain ⟨e1, e2⟩ := hs
   have p := HH h (k := i) (by omega)
   have q := HH h (k := i + 1) (by omega)
   rw [SR] at q
   refine ⟨?_, by simpa using e1, fun j hj => ?_⟩
   ·rw [WT, decide_eq_true (by omega), qQ (by omega), qM (by omega) (by omega), qM (by omega) (by omega), qM (by omega) (by omega)]
    simp only [cond_true, Int.toNat_natCast]
    rw [e2 i (Nat.le_refl _), qF (by omega) (by omega), SR]
   ·by_cases c1 : j = i + 1
    ·subst c1; rw [ER _ (by omega)]
    ·rw [NF _ (fun e => c1 e.symm), e2 j (by omega)])
  (fun n s _ => by rw [WT, decide_eq_false (by omega)]; rfl) (List.replicate (c.length + 1) 0) ⟨by simp, fun j hj => by
   rw [show j = 0 by omega]; simp [pre, sumN, List.getD_eq_getElem?_getD]⟩
 rw [show ((0 : Nat) : Int) = 0 from rfl, Nat.sub_zero] at k
 rw [k.1]
 simp only [Option.bind_some]
 congr 1
 unfold sums
 refine qMN (by simp [k.2.1]) (fun j hj => ?_)
 rw [k.2.1] at hj
 rw [k.2.2 j (by omega), ZY _ hj]
abbrev Ch := Cutting_choice
def noCh (v : Int) : Ch := ⟨⟨-1, -1⟩, v⟩
def isNo (c : Ch) : Bool := (c.piece.Size == -1) && (c.piece.At == -1)
def szAt (a : Line) (i : Nat) : Int := a.Sizes.getD i default
def gnAt (a : Line) (i : Nat) (p : Nat) : Int := (a.Gain.getD i default).getD p default
/-- Where the next piece may begin, behind a piece's end. -/
def nxtN (a : Line) (q : Nat) : Nat := (imin ((q : Int) + a.Kerf) a.Len).toNat
def endN (a : Line) (p i : Nat) : Nat := (p + szAt a i).toNat
def candV (a : Line) (best : Nat → Ch) (p i : Nat) : Int :=
 gnAt a i p + (if (endN a p i : Int) = a.Len then 0 else (pre a.Dust (nxtN a (endN a p i)) - pre a.Dust (endN a p i)) + (best (nxtN a (endN a p i))).value)
def JL (a : Line) (best : Nat → Ch) (p i : Nat) (c : Ch) : Ch :=
 if (p : Int) + szAt a i > a.Len ∨ gnAt a i p < 0 then c
 else bif isNo c || decide (candV a best p i > c.value) then ⟨⟨(i : Int), (p : Int)⟩, candV a best p i⟩ else c
def startS (a : Line) (best : Nat → Ch) (p : Nat) : Ch := foldN (JL a best p) 0 a.Sizes.length (noCh 0)
def WU (a : Line) (st : Nat → Ch) (p : Nat) (x : Nat) (c : Ch) : Ch :=
 bif !isNo (st x) && decide ((st x).value + (pre a.Chip (x - a.Kerf.toNat) - pre a.Chip p + pre a.Dust x - pre a.Dust (x - a.Kerf.toNat)) > c.value) then ⟨(st x).piece, (st x).value + (pre a.Chip (x - a.Kerf.toNat) - pre a.Chip p + pre a.Dust x - pre a.Dust (x - a.Kerf.toNat))⟩ else c
def placeN (a : Line) (p k : Nat) : Nat := p + a.Kerf.toNat + (k + 1) * a.Pitch.toNat
def CX (a : Line) (st : Nat → Ch) (p : Nat) : Ch :=
 bif !isNo (st p) && decide ((st p).value > pre a.Chip a.Len.toNat - pre a.Chip p) then st p else noCh (pre a.Chip a.Len.toNat - pre a.Chip p)
def jV (a : Line) (p : Nat) : Nat := ((a.Len.toNat - (p + a.Kerf.toNat)) / a.Pitch.toNat)
def bestS (a : Line) (st : Nat → Ch) (p : Nat) : Ch := foldN (fun k c => WU a st p (placeN a p k) c) 0 (jV a p) (CX a st p)
/-- The table after k places from the end: what is best from a place, and what is best if a piece begins there. -/
def tab (a : Line) : Nat → Nat → Ch × Ch
 | 0 => fun _ => (⟨⟨0, 0⟩, 0⟩, ⟨⟨0, 0⟩, 0⟩)
 | k + 1 => fun j =>
  if j = a.Len.toNat - k then
   (bestS a (fun x => if x = a.Len.toNat - k then startS a (fun y => (tab a k y).1) (a.Len.toNat - k) else (tab a k x).2) (a.Len.toNat - k), startS a (fun y => (tab a k y).1) (a.Len.toNat - k))
  else tab a k j
def BV (a : Line) (p : Nat) (v : Int) : Prop := -(2251799813685248 * (a.Len - p)) ≤ v ∧ v ≤ 2251799813685248 * (a.Len - p)
theorem QY {c : List Int} {k : Nat} (h : k ≤ c.length) : (sums c).getD k default = pre c k := by unfold sums; rw [ZY _ (by omega)]
theorem KF (c : List Int) : (sums c).length = c.length + 1 := by unfold sums; simp
theorem YH {c : List Int} (h : ∀ j, j < c.length → okN (c.getD j default)) {i : Nat} : ∀ {k : Nat}, i + k ≤ c.length → -(1125899906842624 * (k : Int)) ≤ pre c (i + k) - pre c i ∧ pre c (i + k) - pre c i ≤ 1125899906842624 * (k : Int)
 | 0, _ => by simp
 | k + 1, hk => by
  have a := YH h (i := i) (k := k) (by omega)
  have b := h (i + k) (by omega)
  unfold okN at b
  rw [show i + (k + 1) = (i + k) + 1 from rfl, SR]
  omega
theorem qIe {a : Line} (h : VL a) {p i : Nat} (hi : i < a.Sizes.length) (hq : (p : Int) + szAt a i ≤ a.Len) {best : Nat → Ch} (hb : ∀ x, p < x → (x : Int) ≤ a.Len → BV a x (best x).value) : BV a p (candV a best p i) := by
 have s := h.sz i hi
 have g : okN (gnAt a i p) := h.gb i hi p (by have := h.gr i hi; unfold szAt at hq; omega)
 have kf := h.kerf
 have dl := h.dl
 unfold candV
 have e : (endN a p i : Int) = p + szAt a i := by unfold endN; unfold szAt at *; omega
 unfold okN at g
 by_cases c : (endN a p i : Int) = a.Len
 ·rw [if_pos c]; unfold BV; unfold szAt at *; omega
 ·rw [if_neg c]
  have m := wL ((endN a p i : Int) + a.Kerf) a.Len
  have en : (nxtN a (endN a p i) : Int) = imin ((endN a p i : Int) + a.Kerf) a.Len := by unfold nxtN; omega
  have bb := hb (nxtN a (endN a p i)) (by unfold szAt at *; omega) (by omega)
  have pd := YH h.db (i := endN a p i) (k := nxtN a (endN a p i) - endN a p i) (by omega)
  rw [show endN a p i + (nxtN a (endN a p i) - endN a p i) = nxtN a (endN a p i) by omega] at pd
  unfold BV at *
  unfold szAt at *
  omega
theorem qDI (c : Ch) : ((c.piece.Size == -1) && ((c.piece.At == -1) && true)) = isNo c := by unfold isNo; rw [Bool.and_true]
theorem qPG {a : Line} (h : VL a) {p : Nat} (hp : (p : Int) ≤ a.Len) {b4 : List Ch} (hl : (b4.length : Int) = a.Len + 1) (hb : ∀ x, p < x → (x : Int) ≤ a.Len → BV a x (b4.getD x default).value) :
  TA a (p : Int) (sums a.Dust) b4 = some (startS a (fun x => b4.getD x default) p) := by
 have szl := h.szl
 have kf := h.kerf
 have ln := h.len
 have dl := h.dl
 have gl := h.gl
 unfold TA
 have k := zE a.Sizes.length (fun n (c : Ch) i => wH a (p : Int) (sums a.Dust) b4 n i c) (JL a (fun x => b4.getD x default) p) (fun c => c) (fun _ _ => True) 0 (by omega) (by omega)
  (fun n i c hi _ => ⟨by
   have s := h.sz i hi
   have gr := h.gr i hi
   unfold JL szAt
   rw [wH, decide_eq_true (by omega), qM (by omega) (by omega)]
   simp only [cond_true, Int.toNat_natCast, RL, RH, PX, YF, qQ (show i < 4611686018427387904 by omega), qDI]
   simp only [qF (n := (p : Int) + a.Sizes.getD i default) (by omega) (by omega)]
   by_cases c1 : (p : Int) + a.Sizes.getD i default > a.Len
   ·rw [decide_eq_true c1, if_pos (.inl c1)]; rfl
   rw [decide_eq_false c1, qM (show (0 : Int) ≤ (i : Int) by omega) (show (i : Int) < ((a.Gain.length : Nat) : Int) by omega), qM (show (0 : Int) ≤ (p : Int) by omega) (show (p : Int) < (((a.Gain.getD i default).length : Nat) : Int) by omega)]
   simp only [cond_true, cond_false]
   by_cases c2 : (a.Gain.getD i default).getD p default < 0
   ·rw [decide_eq_true c2, if_pos (.inr c2)]; rfl
   rw [decide_eq_false c2, if_neg (by unfold gnAt; omega)]
   simp only [cond_false]
   have cb := qIe h hi (show (p : Int) + szAt a i ≤ a.Len by unfold szAt; omega) hb
   have gb := h.gb i hi p (by omega)
   unfold okN at gb
   have e : (endN a p i : Int) = p + a.Sizes.getD i default := by unfold endN szAt; omega
   unfold JY
   by_cases c3 : (p : Int) + a.Sizes.getD i default = a.Len
   ·have ev : candV a (fun x => b4.getD x default) p i = (a.Gain.getD i default).getD p default := by
     unfold candV gnAt
     rw [if_pos (by omega)]; omega
    rw [ev, show ((p : Int) + a.Sizes.getD i default == a.Len) = true by rw [beq_iff_eq]; exact c3]
    simp only [cond_true, Option.bind_some]
    rw [show decide ((-1 : Int) ≥ 0) = false from rfl]
    simp only [cond_false]
    cases isNo c <;> cases decide ((a.Gain.getD i default).getD p default > c.value) <;> rfl
   ·have m := wL ((p : Int) + a.Sizes.getD i default + a.Kerf) a.Len
    have en : imin ((p : Int) + a.Sizes.getD i default + a.Kerf) a.Len = (nxtN a (endN a p i) : Int) := by unfold nxtN; rw [e]; omega
    rw [show ((p : Int) + a.Sizes.getD i default == a.Len) = false by rw [beq_eq_false_iff_ne]; exact c3]
    simp only [cond_false, Option.bind_some, qF (n := (p : Int) + a.Sizes.getD i default + a.Kerf) (by omega) (by omega), en]
    rw [decide_eq_true (show (nxtN a (endN a p i) : Int) ≥ 0 by omega), ← e]
    simp only [KF, qM (show (0 : Int) ≤ (nxtN a (endN a p i) : Int) by omega) (show (nxtN a (endN a p i) : Int) < ((a.Dust.length + 1 : Nat) : Int) by omega), qM (show (0 : Int) ≤ (endN a p i : Int) by omega) (show (endN a p i : Int) < ((a.Dust.length + 1 : Nat) : Int) by omega), qM (show (0 : Int) ≤ (nxtN a (endN a p i) : Int) by omega) (show (nxtN a (endN a p i) : Int) < ((b4.length : Nat) : Int) by omega), cond_true, Int.toNat_natCast, QY (c := a.Dust) (show nxtN a (endN a p i) ≤ a.Dust.length by omega), QY (c := a.Dust) (show endN a p i ≤ a.Dust.length by omega)]
    have bb := hb (nxtN a (endN a p i)) (by omega) (by omega)
    have pd := YH h.db (i := endN a p i) (k := nxtN a (endN a p i) - endN a p i) (by omega)
    rw [show endN a p i + (nxtN a (endN a p i) - endN a p i) = nxtN a (endN a p i) by omega] at pd
    have ev : candV a (fun x => b4.getD x default) p i = (a.Gain.getD i default).getD p default + (pre a.Dust (nxtN a (endN a p i)) - pre a.Dust (endN a p i) + (b4.getD (nxtN a (endN a p i)) default).value) := by
     unfold candV gnAt
     rw [if_neg (by omega)]
    unfold BV at bb cb
    simp only [qF (n := pre a.Dust (nxtN a (endN a p i)) - pre a.Dust (endN a p i)) (by omega) (by omega), qF (n := pre a.Dust (nxtN a (endN a p i)) - pre a.Dust (endN a p i) + (b4.getD (nxtN a (endN a p i)) default).value) (by omega) (by omega)]
    rw [ev] at cb
    simp only [qF (n := (a.Gain.getD i default).getD p default + (pre a.Dust (nxtN a (endN a p i)) - pre a.Dust (endN a p i) + (b4.getD (nxtN a (endN a p i)) default).value)) (by omega) (by omega), ev]
    cases isNo c <;> cases decide ((a.Gain.getD i default).getD p default + (pre a.Dust (nxtN a (endN a p i)) - pre a.Dust (endN a p i) + (b4.getD (nxtN a (endN a p i)) default).value) > c.value) <;> rfl, trivial⟩)
  (fun n c _ => by rw [wH, decide_eq_false (by omega)]; rfl) (noCh 0) trivial
 rw [show ((0 : Nat) : Int) = 0 from rfl, Nat.sub_zero] at k
 exact congrArg (fun o => Option.bind o some) k.1
theorem VG {a : Line} (h : VL a) {p k : Nat} : k < jV a p ↔ (placeN a p k : Int) ≤ a.Len := by
 have hp := h.pitch
 have hl := h.len
 have hk := h.kerf
 unfold jV placeN
 have e : k < (a.Len.toNat - (p + a.Kerf.toNat)) / a.Pitch.toNat ↔ (k + 1) * a.Pitch.toNat ≤ a.Len.toNat - (p + a.Kerf.toNat) := by
  rw [← Nat.le_div_iff_mul_le (by omega)]; omega
 rw [e]
 have : 1 ≤ (k + 1) * a.Pitch.toNat := Nat.mul_pos (by omega) (by omega)
 omega
theorem qMe {a : Line} (h : VL a) {p i : Nat} (hi : i < a.Sizes.length) {best : Nat → Ch} (hb : ∀ x, p < x → (x : Int) ≤ a.Len → BV a x (best x).value) {c : Ch} (hc : BV a p c.value) : BV a p (JL a best p i c).value := by
 unfold JL
 split
 ·exact hc
 ·cases isNo c || decide (candV a best p i > c.value) with
  | true => exact qIe h hi (by omega) hb
  | false => exact hc
theorem qPd {a : Line} (h : VL a) {p : Nat} (hp : (p : Int) ≤ a.Len) {best : Nat → Ch} (hb : ∀ x, p < x → (x : Int) ≤ a.Len → BV a x (best x).value) : BV a p (startS a best p).value := by
 unfold startS
 exact VJ (P := fun (c : Ch) => BV a p c.value) (by unfold noCh BV; simp only; omega) (fun i c _ hi hc => qMe h (by omega) hb hc)
theorem qPi {a : Line} (h : VL a) {p x : Nat} (hx : (x : Int) ≤ a.Len) (hpx : (p : Int) + a.Kerf ≤ x) {v : Int} (hv : BV a x v) :
  BV a p (v + (pre a.Chip (x - a.Kerf.toNat) - pre a.Chip p + pre a.Dust x - pre a.Dust (x - a.Kerf.toNat))) := by
 have cl := h.cl
 have dl := h.dl
 have kf := h.kerf
 have p1 := YH h.cb (i := p) (k := x - a.Kerf.toNat - p) (by omega)
 have p2 := YH h.db (i := x - a.Kerf.toNat) (k := a.Kerf.toNat) (by omega)
 rw [show p + (x - a.Kerf.toNat - p) = x - a.Kerf.toNat by omega] at p1
 rw [show x - a.Kerf.toNat + a.Kerf.toNat = x by omega] at p2
 unfold BV at *
 omega
theorem qK3 {a : Line} (h : VL a) {p : Nat} (hp : (p : Int) ≤ a.Len) {l8 : List Ch} (hl : (l8.length : Int) = a.Len + 1) (v11 : Ch) (hb : ∀ x, p < x → (x : Int) ≤ a.Len → BV a x ((l8.set p v11).getD x default).value) (c0 : Ch) :
  wD a (sums a.Chip) (sums a.Dust) l8 (p : Int) v11 FUEL ((placeN a p 0 : Nat) : Int) c0 = some (foldN (fun k c => WU a (fun x => (l8.set p v11).getD x default) p (placeN a p k) c) 0 (jV a p) c0) := by
 have ln := h.len
 have kf := h.kerf
 have pt := h.pitch
 have cl := h.cl
 have dl := h.dl
 have hN : jV a p ≤ 1000000000 := by
  unfold jV
  have := Nat.div_le_self (a.Len.toNat - (p + a.Kerf.toNat)) a.Pitch.toNat
  omega
 refine (qDY (jV a p) (fun n (c : Ch) (x : Int) => wD a (sums a.Chip) (sums a.Dust) l8 (p : Int) v11 n x c) (fun k => ((placeN a p k : Nat) : Int)) (fun k c => WU a (fun x => (l8.set p v11).getD x default) p (placeN a p k) c) (fun c => c) (fun _ _ => True) hN (fun n k c hk _ => ⟨?_, trivial⟩) (fun n c _ => ?_) c0 trivial).1
 ·have hx := (VG h).1 hk
  have nx : ((placeN a p k : Nat) : Int) + a.Pitch = ((placeN a p (k + 1) : Nat) : Int) := by
   unfold placeN
   rw [show (k + 1 + 1) * a.Pitch.toNat = (k + 1) * a.Pitch.toNat + a.Pitch.toNat from Nat.succ_mul _ _]
   omega
  have lo : p + a.Kerf.toNat + 1 ≤ placeN a p k := by
   unfold placeN
   have : 1 ≤ (k + 1) * a.Pitch.toNat := Nat.mul_pos (by omega) (by omega)
   omega
  generalize placeN a p k = x at *
  have xk : ((x : Int) - a.Kerf) = ((x - a.Kerf.toNat : Nat) : Int) := by omega
  have bx := hb x (by omega) hx
  have bs := qPi h hx (p := p) (by omega) bx
  have b1 := HH h.cb (k := x - a.Kerf.toNat) (by omega)
  have b2 := HH h.cb (k := p) (by omega)
  have b3 := HH h.db (k := x) (by omega)
  have b4 := HH h.db (k := x - a.Kerf.toNat) (by omega)
  have p1 := YH h.cb (i := p) (k := x - a.Kerf.toNat - p) (by omega)
  rw [show p + (x - a.Kerf.toNat - p) = x - a.Kerf.toNat by omega] at p1
  have p2 := YH h.db (i := x - a.Kerf.toNat) (k := a.Kerf.toNat) (by omega)
  rw [show x - a.Kerf.toNat + a.Kerf.toNat = x by omega] at p2
  unfold BV at bx bs
  rw [wD]
  simp only [show w64 ((x : Int) - a.Kerf) = ((x - a.Kerf.toNat : Nat) : Int) by rw [qF (by omega) (by omega), xk], Int.toNat_natCast, KF, qM (show (0 : Int) ≤ (x : Int) by omega) (show (x : Int) < ((l8.length : Nat) : Int) by omega), qM (show (0 : Int) ≤ ((x - a.Kerf.toNat : Nat) : Int) by omega) (show ((x - a.Kerf.toNat : Nat) : Int) < ((a.Chip.length + 1 : Nat) : Int) by omega), qM (show (0 : Int) ≤ (p : Int) by omega) (show (p : Int) < ((a.Chip.length + 1 : Nat) : Int) by omega), qM (show (0 : Int) ≤ (x : Int) by omega) (show (x : Int) < ((a.Dust.length + 1 : Nat) : Int) by omega), qM (show (0 : Int) ≤ ((x - a.Kerf.toNat : Nat) : Int) by omega) (show ((x - a.Kerf.toNat : Nat) : Int) < ((a.Dust.length + 1 : Nat) : Int) by omega), cond_true, QY (c := a.Chip) (show x - a.Kerf.toNat ≤ a.Chip.length by omega), QY (c := a.Chip) (show p ≤ a.Chip.length by omega), QY (c := a.Dust) (show x ≤ a.Dust.length by omega), QY (c := a.Dust) (show x - a.Kerf.toNat ≤ a.Dust.length by omega), qDI, XT, XQ]
  rw [decide_eq_true hx]
  simp only [cond_true, show w64 ((x : Int) + a.Pitch) = ((placeN a p (k + 1) : Nat) : Int) by rw [qF (by omega) (by omega), nx], qF (n := pre a.Chip (x - a.Kerf.toNat) - pre a.Chip p) (by omega) (by omega), qF (n := pre a.Chip (x - a.Kerf.toNat) - pre a.Chip p + pre a.Dust x) (by omega) (by omega), qF (n := pre a.Chip (x - a.Kerf.toNat) - pre a.Chip p + pre a.Dust x - pre a.Dust (x - a.Kerf.toNat)) (by omega) (by omega), qF (n := ((l8.set p v11).getD x default).value + (pre a.Chip (x - a.Kerf.toNat) - pre a.Chip p + pre a.Dust x - pre a.Dust (x - a.Kerf.toNat))) (by omega) (by omega), WU]
  cases isNo ((l8.set p v11).getD x default) <;> cases decide (((l8.set p v11).getD x default).value + (pre a.Chip (x - a.Kerf.toNat) - pre a.Chip p + pre a.Dust x - pre a.Dust (x - a.Kerf.toNat)) > c.value) <;> rfl
 ·have hx : ¬ ((placeN a p (jV a p) : Nat) : Int) ≤ a.Len := fun q => by have := (VG h).2 q; omega
  rw [wD, decide_eq_false hx]; rfl
theorem qEr {a : Line} (h : VL a) {p : Nat} (hp : (p : Int) ≤ a.Len) : BV a p (pre a.Chip a.Len.toNat - pre a.Chip p) := by
 have cl := h.cl
 have ln := h.len
 have := YH h.cb (i := p) (k := a.Len.toNat - p) (by omega)
 rw [show p + (a.Len.toNat - p) = a.Len.toNat by omega] at this
 unfold BV; omega
theorem qPP {a : Line} (h : VL a) {p : Nat} (hp : (p : Int) ≤ a.Len) {st : Nat → Ch} (hs : BV a p (st p).value) : BV a p (CX a st p).value := by
 unfold CX
 cases !isNo (st p) && decide ((st p).value > pre a.Chip a.Len.toNat - pre a.Chip p) with
 | true => exact hs
 | false => exact qEr h hp
theorem LG {a : Line} (h : VL a) (p k : Nat) : p + a.Kerf.toNat + 1 ≤ placeN a p k := by
 unfold placeN
 have := h.pitch
 have : 1 ≤ (k + 1) * a.Pitch.toNat := Nat.mul_pos (by omega) (by omega)
 omega
theorem qQu {a : Line} (h : VL a) {p : Nat} (hp : (p : Int) ≤ a.Len) {st : Nat → Ch} (hs : ∀ x, p ≤ x → (x : Int) ≤ a.Len → BV a x (st x).value) : BV a p (bestS a st p).value := by
 unfold bestS
 have kf := h.kerf
 refine VJ (P := fun (c : Ch) => BV a p c.value) (qPP h hp (hs p (Nat.le_refl _) hp)) (fun k c _ hk hc => ?_)
 have hx := (VG h).1 (show k < jV a p by omega)
 have lo := LG h p k
 unfold WU
 cases !isNo (st (placeN a p k)) && decide ((st (placeN a p k)).value + (pre a.Chip (placeN a p k - a.Kerf.toNat) - pre a.Chip p + pre a.Dust (placeN a p k) - pre a.Dust (placeN a p k - a.Kerf.toNat)) > c.value) with
 | false => exact hc
 | true => exact qPi h hx (by omega) (hs _ (by omega) hx)
/-- How the lists stand beside the table. -/
structure TI (a : Line) (k : Nat) (s : List Ch × List Ch) : Prop where
 l1 : (s.1.length : Int) = a.Len + 1
 l2 : (s.2.length : Int) = a.Len + 1
 e1 : ∀ j, s.1.getD j default = (tab a k j).1
 e2 : ∀ j, s.2.getD j default = (tab a k j).2
 b1 : ∀ j, a.Len.toNat < j + k → (j : Int) ≤ a.Len → BV a j (tab a k j).1.value ∧ BV a j (tab a k j).2.value
def qC3 (a : Line) (k : Nat) (s : List Ch × List Ch) : List Ch × List Ch :=
 (s.1.set (a.Len.toNat - k) (bestS a (fun x => (s.2.set (a.Len.toNat - k) (startS a (fun y => s.1.getD y default) (a.Len.toNat - k))).getD x default) (a.Len.toNat - k)), s.2.set (a.Len.toNat - k) (startS a (fun y => s.1.getD y default) (a.Len.toNat - k)))
theorem qAh {α : Type} [Inhabited α] {l : List α} {x : Nat} (v : α) (h : x < l.length) (j : Nat) : (l.set x v).getD j default = if j = x then v else l.getD j default := by
 by_cases c : j = x
 ·subst c; rw [if_pos rfl, ER _ h]
 ·rw [if_neg c, NF _ (fun e => c e.symm)]
theorem qN3 {a : Line} (h : VL a) {k : Nat} (hk : (k : Int) ≤ a.Len) {s : List Ch × List Ch} (t : TI a k s) : TI a (k + 1) (qC3 a k s) := by
 have ln := h.len
 have f1 : (fun y => s.1.getD y default) = fun y => (tab a k y).1 := funext t.e1
 have l1 := t.l1
 have l2 := t.l2
 have f2 : (fun x => (s.2.set (a.Len.toNat - k) (startS a (fun y => (tab a k y).1) (a.Len.toNat - k))).getD x default) = fun x => if x = a.Len.toNat - k then startS a (fun y => (tab a k y).1) (a.Len.toNat - k) else (tab a k x).2 := funext fun x => by
  rw [qAh _ (by omega), t.e2]
 have sb : BV a (a.Len.toNat - k) (startS a (fun y => (tab a k y).1) (a.Len.toNat - k)).value := qPd h (by omega) (fun x h1 h2 => (t.b1 x (by omega) h2).1)
 have bb : BV a (a.Len.toNat - k) (bestS a (fun x => if x = a.Len.toNat - k then startS a (fun y => (tab a k y).1) (a.Len.toNat - k) else (tab a k x).2) (a.Len.toNat - k)).value := qQu h (by omega) (fun x h1 h2 => by
  by_cases c : x = a.Len.toNat - k
  ·simp only [if_pos c]; rw [c]; exact sb
  ·simp only [if_neg c]; exact (t.b1 x (by omega) h2).2)
 unfold qC3
 rw [f1, f2]
 refine ⟨by simpa using l1, by simpa using l2, fun j => ?_, fun j => ?_, fun j h1 h2 => ?_⟩
 ·simp only
  rw [qAh _ (by omega)]
  simp only [tab]
  by_cases c : j = a.Len.toNat - k
  ·rw [if_pos c, if_pos c]
  ·rw [if_neg c, if_neg c, t.e1]
 ·simp only
  rw [qAh _ (by omega)]
  simp only [tab]
  by_cases c : j = a.Len.toNat - k
  ·rw [if_pos c, if_pos c]
  ·rw [if_neg c, if_neg c, t.e2]
 ·simp only [tab]
  by_cases c : j = a.Len.toNat - k
  ·rw [if_pos c, c]; exact ⟨bb, sb⟩
  ·rw [if_neg c]; exact t.b1 j (by omega) h2
def bst (a : Line) (p : Nat) : Ch := (tab a (a.Len.toNat + 1) p).1
def stt (a : Line) (p : Nat) : Ch := (tab a (a.Len.toNat + 1) p).2
theorem qHP (a : Line) (j : Nat) : ∀ (d k : Nat), a.Len.toNat < j + k → k + d ≤ a.Len.toNat + 1 → tab a (k + d) j = tab a k j
 | 0, k, _, _ => rfl
 | d + 1, k, h1, h2 => by
  rw [show k + (d + 1) = (k + d) + 1 from rfl]
  simp only [tab]
  rw [if_neg (by omega), qHP a j d k h1 (by omega)]
theorem qDp (a : Line) {j k : Nat} (h1 : a.Len.toNat < j + k) (h2 : k ≤ a.Len.toNat + 1) : tab a (a.Len.toNat + 1) j = tab a k j := by
 have := qHP a j (a.Len.toNat + 1 - k) k h1 (by omega)
 rwa [show k + (a.Len.toNat + 1 - k) = a.Len.toNat + 1 by omega] at this
theorem nxt_b {a : Line} (h : VL a) {p i : Nat} (hi : i < a.Sizes.length) (hq : ¬ ((p : Int) + szAt a i > a.Len)) (hn : ¬ (endN a p i : Int) = a.Len) : p < nxtN a (endN a p i) ∧ (nxtN a (endN a p i) : Int) ≤ a.Len ∧ endN a p i ≤ nxtN a (endN a p i) := by
 have s := h.sz i hi
 have kf := h.kerf
 have e : (endN a p i : Int) = p + szAt a i := by unfold endN; unfold szAt at *; omega
 have m := wL ((endN a p i : Int) + a.Kerf) a.Len
 have en : (nxtN a (endN a p i) : Int) = imin ((endN a p i : Int) + a.Kerf) a.Len := by unfold nxtN; omega
 unfold szAt at *
 omega
theorem qNk {a : Line} (h : VL a) {p i : Nat} (hi : i < a.Sizes.length) (hq : ¬ ((p : Int) + szAt a i > a.Len)) {f g : Nat → Ch} (e : ∀ x, p < x → (x : Int) ≤ a.Len → f x = g x) : candV a f p i = candV a g p i := by
 unfold candV
 by_cases c : (endN a p i : Int) = a.Len
 ·rw [if_pos c, if_pos c]
 ·have := nxt_b h hi hq c
  rw [if_neg c, if_neg c, e _ this.1 this.2.1]
theorem qLX {a : Line} (h : VL a) {p : Nat} {f g : Nat → Ch} (e : ∀ x, p < x → (x : Int) ≤ a.Len → f x = g x) : startS a f p = startS a g p := by
 unfold startS
 refine qCH (fun i _ hi c => ?_)
 unfold JL
 by_cases c1 : (p : Int) + szAt a i > a.Len ∨ gnAt a i p < 0
 ·rw [if_pos c1, if_pos c1]
 ·rw [if_neg c1, if_neg c1, qNk h (by omega) (by omega) e]
theorem qNj {a : Line} (h : VL a) {p : Nat} (hp : (p : Int) ≤ a.Len) {f g : Nat → Ch} (e : ∀ x, p ≤ x → (x : Int) ≤ a.Len → f x = g x) : bestS a f p = bestS a g p := by
 unfold bestS CX
 rw [e p (Nat.le_refl _) hp]
 refine qCH (fun k _ hk c => ?_)
 have hx := (VG h).1 (show k < jV a p by omega)
 have lo := LG h p k
 unfold WU
 rw [e _ (by omega) hx]
theorem qOP {a : Line} (h : VL a) {p : Nat} (hp : (p : Int) ≤ a.Len) : stt a p = startS a (bst a) p := by
 have ln := h.len
 unfold stt
 rw [qDp a (j := p) (k := (a.Len.toNat - p) + 1) (by omega) (by omega)]
 simp only [tab]
 rw [if_pos (by omega), show a.Len.toNat - (a.Len.toNat - p) = p by omega]
 refine qLX h (fun x h1 h2 => ?_)
 unfold bst
 rw [qDp a (j := x) (k := a.Len.toNat - p) (by omega) (by omega)]
theorem qPe {a : Line} (h : VL a) {p : Nat} (hp : (p : Int) ≤ a.Len) : bst a p = bestS a (stt a) p := by
 have ln := h.len
 unfold bst
 rw [qDp a (j := p) (k := (a.Len.toNat - p) + 1) (by omega) (by omega)]
 simp only [tab]
 rw [if_pos (by omega), show a.Len.toNat - (a.Len.toNat - p) = p by omega]
 refine qNj h hp (fun x h1 h2 => ?_)
 by_cases c : x = p
 ·subst c
  rw [if_pos rfl]
  unfold stt
  rw [qDp a (j := x) (k := (a.Len.toNat - x) + 1) (by omega) (by omega)]
  simp only [tab]
  rw [if_pos (by omega), show a.Len.toNat - (a.Len.toNat - x) = x by omega]
 ·rw [if_neg c]
  unfold stt
  rw [qDp a (j := x) (k := a.Len.toNat - p) (by omega) (by omega)]
/-! ### A start is the best of the pieces that fit there -/
def LeC (c d : Ch) : Prop := isNo c = true ∨ (isNo d = false ∧ c.value ≤ d.value)
theorem LeC.trans {c d e : Ch} (h : LeC c d) (k : LeC d e) : LeC c e := by
 unfold LeC at *
 rcases h with h | ⟨h1, h2⟩
 ·exact .inl h
 ·rcases k with k | ⟨k1, k2⟩
  ·rw [k] at h1; cases h1
  ·exact .inr ⟨k1, by omega⟩
theorem isNo_mk (i p : Nat) (v : Int) : isNo ⟨⟨(i : Int), (p : Int)⟩, v⟩ = false := by
 unfold isNo
 rw [show (((i : Int)) == (-1 : Int)) = false by rw [beq_eq_false_iff_ne]; omega]; rfl
/-- What a start is. -/
def IsSt (a : Line) (best : Nat → Ch) (p : Nat) (c : Ch) : Prop := c = noCh 0 ∨ ∃ i : Nat, i < a.Sizes.length ∧ ¬ ((p : Int) + szAt a i > a.Len) ∧ ¬ gnAt a i p < 0 ∧ c = ⟨⟨(i : Int), (p : Int)⟩, candV a best p i⟩
theorem startS_is (a : Line) (best : Nat → Ch) (p : Nat) : IsSt a best p (startS a best p) := by
 unfold startS
 refine VJ (P := IsSt a best p) (.inl rfl) (fun i c _ hi hc => ?_)
 unfold JL
 by_cases c1 : (p : Int) + szAt a i > a.Len ∨ gnAt a i p < 0
 ·rw [if_pos c1]; exact hc
 ·rw [if_neg c1]
  cases isNo c || decide (candV a best p i > c.value) with
  | false => exact hc
  | true => exact .inr ⟨i, by omega, by omega, by omega, rfl⟩
/-! ### A best choice -/
def restV (a : Line) (p x : Nat) : Int := pre a.Chip (x - a.Kerf.toNat) - pre a.Chip p + pre a.Dust x - pre a.Dust (x - a.Kerf.toNat)
theorem qEU (a : Line) (st : Nat → Ch) (p x : Nat) (c : Ch) : WU a st p x c = bif !isNo (st x) && decide ((st x).value + restV a p x > c.value) then ⟨(st x).piece, (st x).value + restV a p x⟩ else c := rfl
/-- What a best choice is. -/
def IsBs (a : Line) (st : Nat → Ch) (p : Nat) (c : Ch) : Prop :=
 c = noCh (pre a.Chip a.Len.toNat - pre a.Chip p) ∨ (isNo (st p) = false ∧ c = st p) ∨ ∃ k, k < jV a p ∧ isNo (st (placeN a p k)) = false ∧ c = ⟨(st (placeN a p k)).piece, (st (placeN a p k)).value + restV a p (placeN a p k)⟩
theorem bestS_is (a : Line) (st : Nat → Ch) (p : Nat) : IsBs a st p (bestS a st p) := by
 unfold bestS
 refine VJ (P := IsBs a st p) ?_ (fun k c _ hk hc => ?_)
 ·unfold CX
  cases h1 : isNo (st p) with
  | true => exact .inl rfl
  | false =>
   cases decide ((st p).value > pre a.Chip a.Len.toNat - pre a.Chip p) with
   | true => exact .inr (.inl ⟨h1, rfl⟩)
   | false => exact .inl rfl
 ·rw [qEU]
  cases h1 : isNo (st (placeN a p k)) with
  | true => exact hc
  | false =>
   cases decide ((st (placeN a p k)).value + restV a p (placeN a p k) > c.value) with
   | false => exact hc
   | true => exact .inr (.inr ⟨k, by omega, h1, rfl⟩)
end Saw
end Go.SL
