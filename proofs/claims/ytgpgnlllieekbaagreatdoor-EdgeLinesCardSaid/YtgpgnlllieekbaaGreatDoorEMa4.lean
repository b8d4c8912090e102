/- Edge's plain mathematics, part 12: the line of a strip. -/
import Derived.Test.YtgpgnlllieekbaaGreatDoorEMa3
set_option linter.unusedVariables false
set_option linter.unusedSimpArgs false
namespace Go.SL
namespace Saw
structure SzI (l : List qA) (x : Nat) (s : List Int × List Int) : Prop where
 len : s.1.length = s.2.length
 le : s.1.length ≤ x
 at_ : ∀ j, j < s.1.length → ∃ i : Nat, i < x ∧ s.2.getD j default = (i : Int) ∧ (s.1.getD j default = (zB (l.getD i default)).1 ∨ s.1.getD j default = (zB (l.getD i default)).2)
theorem qHl {α : Type} [Inhabited α] {l : List α} {x : α} {i : Nat} (h : i ≤ l.length) : (l ++ [x]).getD i default = if i < l.length then l.getD i default else x := by
 simp only [List.getD_eq_getElem?_getD, List.getElem?_append]
 by_cases c : i < l.length
 ·simp [c]
 ·have : i = l.length := by omega
  subst this; simp
theorem qJ1 {l : List qA} {x : Nat} {s : List Int × List Int} (h : SzI l x s) {v : Int} (hv : v = (zB (l.getD x default)).1 ∨ v = (zB (l.getD x default)).2) : SzI l (x + 1) (s.1 ++ [v], s.2 ++ [(x : Int)]) := by
 have h1 := h.len
 have h2 := h.le
 refine ⟨by simp [h1], by simp; omega, fun j hj => ?_⟩
 simp only [List.length_append, List.length_cons, List.length_nil] at hj
 simp only
 rw [qHl (by omega), qHl (by omega)]
 by_cases c : j < s.1.length
 ·rw [if_pos c, if_pos (by omega)]
  obtain ⟨i, a, b, d⟩ := h.at_ j c
  exact ⟨i, by omega, b, d⟩
 ·rw [if_neg c, if_neg (by omega)]
  exact ⟨x, by omega, rfl, hv⟩
theorem qNx {l : List qA} {x : Nat} {s : List Int × List Int} (h : SzI l x s) : SzI l (x + 1) s := ⟨h.len, by have := h.le; omega, fun j hj => by obtain ⟨i, a, b⟩ := h.at_ j hj; exact ⟨i, by omega, b⟩⟩
theorem qHb {l : List qA} (hc : wM l = 0) (t : Int) : SzI l l.length (sizes l t) := by
 unfold sizes
 rw [if_neg (by omega)]
 have : ∀ k, SzI l k (zX (ZU l t) 0 k ([], [])) := by
  intro k
  induction k with
  | zero => exact ⟨rfl, by simp [zX], fun j hj => by simp [zX] at hj⟩
  | succ k ih =>
   rw [WP, Nat.zero_add]
   unfold ZU
   cases (zB (l.getD k default)).1 == t with
   | true => exact qJ1 ih (.inr rfl)
   | false => cases (zB (l.getD k default)).2 == t with
    | true => exact qJ1 ih (.inl rfl)
    | false => exact qNx ih
 exact this _
theorem qMy {p : qA} (h : VP p) : 5 ≤ (zB p).1 ∧ (zB p).1 ≤ 721 ∧ 5 ≤ (zB p).2 ∧ (zB p).2 ≤ 600 := by
 have b := qMW p
 have g := h.gr
 have t := h.th
 have w := h.wd
 have a := h.al
 have e : okG p = true := qGz.2 ⟨by omega, by omega, a⟩
 have g1 := II (n := p.Thick) (a := p.Allow) (by omega) (by omega) a.1 a.2
 have g2 := II (n := p.Width) (a := p.Allow) (by omega) (by omega) a.1 a.2
 have eg : zB p = (qAC p.Thick p.Allow, qAC p.Width p.Allow) := by unfold zB; rw [e]; rfl
 rw [eg] at b g ⊢
 simp only at b g ⊢
 omega
theorem qBP {l : List qA} (hc : wM l = 0) (t : Int) {j : Nat} (hj : j < (sizes l t).1.length) : 5 ≤ (sizes l t).1.getD j default ∧ (sizes l t).1.getD j default ≤ 721 ∧ ∃ i : Nat, i < l.length ∧ (sizes l t).2.getD j default = (i : Int) ∧ VP (l.getD i default) ∧ wM [l.getD i default] = 0 := by
 obtain ⟨i, a, b, c⟩ := (qHb hc t).at_ j hj
 have v := qNK hc a
 have g := qMy v
 refine ⟨by omega, by omega, i, a, b, v, qL3 hc a⟩
def DG (r : Rect) (a b : Int) : Rect := ⟨⟨r.X.A + a, r.X.A + b⟩, r.Y⟩
theorem qK8 {r : Rect} (h : VR r) {a b : Int} (h1 : -2000 ≤ a ∧ a ≤ 2000) (h2 : -2000 ≤ b ∧ b ≤ 2000) : TR r a b = some (DG r a b) := by
 unfold VR at h
 unfold TR DG
 rw [qJ (by omega) (by omega), qJ (by omega) (by omega)]
theorem qGw {r : Rect} (h : VR r) {a b : Int} (h1 : 0 ≤ a) (h2 : a < b) (h3 : b ≤ r.X.B - r.X.A) : VR (DG r a b) := by
 unfold VR at *
 unfold DG
 simp only
 omega
def wid (r : Rect) : Int := r.X.B - r.X.A
def HW (l : List Slice) (ds : List Defect) (p : qA) (r : Rect) (w : Saw) (t : Rates) (sz : Int) (x : Nat) : Int :=
 if (x : Int) % w.Pitch = 0 then qBZ l ds p (DG r x (x + sz)) w t else -1
def BX (l : List Slice) (ds : List Defect) (p : qA) (r : Rect) (w : Saw) (t : Rates) (sz : Int) : List Int := (List.range (wid r - sz + 1).toNat).map (HW l ds p r w t sz)
theorem qLw {l : List Slice} {ds : List Defect} {ps : List qA} {r : Rect} {w : Saw} {t : Rates} (h : VE l ds ps r w t) (z : Int) {j : Nat} (hj : j < (sizes ps z).1.length) :
  yX l ds ps r w t (sizes ps z) (j : Int) FUEL [] 0 = some (BX l ds (ps.getD ((sizes ps z).2.getD j default).toNat default) r w t ((sizes ps z).1.getD j default)) := by
 obtain ⟨s1, s2, i, hi, ei, vp, c1⟩ := qBP h.pr z hj
 have hsl := (qHb h.pr z).len
 have hr := h.vr
 have hr' := hr
 unfold VR at hr'
 have hw := h.vw
 have hp := hw.pitch
 have hd : WO ds = 0 := (YV ds).2 ⟨h.dl, h.dd⟩
 rw [ei, Int.toNat_natCast]
 generalize hsz : (sizes ps z).1.getD j default = sz at *
 have k := zS (wid r - sz + 1).toNat (fun n (s : List Int) x => yX l ds ps r w t (sizes ps z) (j : Int) n s x) (fun x s => s ++ [HW l ds (ps.getD i default) r w t sz x]) (fun s => s)
  (fun x s => s = (List.range x).map (HW l ds (ps.getD i default) r w t sz)) 0 (by omega) (by unfold wid; omega)
  (fun n x s hx hs => by
   unfold wid at hx
   have hlen : s.length = x := by rw [hs]; simp
   refine ⟨?_, by rw [hs, List.range_succ, List.map_append]; rfl⟩
   rw [yX]
   simp only [Int.toNat_natCast, hsz, ei]
   rw [qJ (n := (x : Int) + sz) (by omega) (by omega), qJ (n := r.X.B - r.X.A) (by omega) (by omega), decide_eq_true (by omega), nz_t (by omega), qS (by omega) (by omega), qS (by omega) (by omega), qK8 hr (by omega) (by omega)]
   simp only [cond_true, Option.bind_some, NP, qU (show x < 4611686018427387904 by omega)]
   rw [jH (by omega) (by omega), (qKZ h.sol hd c1 vp (qGw hr (a := (x : Int)) (b := (x : Int) + sz) (by omega) (by omega) (by omega)) hw).1]
   simp only [cond_true, Option.bind_some, HW]
   have em : Int.tmod (x : Int) w.Pitch = (x : Int) % w.Pitch := Int.tmod_eq_emod_of_nonneg (by omega)
   rw [em]
   by_cases c : (x : Int) % w.Pitch = 0
   ·rw [if_pos c, c]; rfl
   ·rw [if_neg c, show ((x : Int) % w.Pitch == 0) = false by rw [beq_eq_false_iff_ne]; exact c]; rfl)
  (fun n s _ => by
   rw [yX]
   simp only [Int.toNat_natCast, hsz]
   unfold wid
   rw [qJ (n := (((r.X.B - r.X.A - sz + 1).toNat : Nat) : Int) + sz) (by omega) (by omega), qJ (n := r.X.B - r.X.A) (by omega) (by omega), decide_eq_false (by omega)]; rfl) [] rfl
 rw [show ((0 : Nat) : Int) = 0 from rfl, Nat.sub_zero] at k
 rw [k.1, k.2]
 rfl
def sliv (l : List Slice) (r : Rect) (x : Nat) : Int := volS l (DG r x (x + 1)).X r.Y ⟨0, qX l⟩
def qFA (l : List Slice) (ds : List Defect) (ps : List qA) (r : Rect) (w : Saw) (t : Rates) (z : Int) : List (List Int) :=
 (List.range (sizes ps z).1.length).map (fun j => BX l ds (ps.getD ((sizes ps z).2.getD j default).toNat default) r w t ((sizes ps z).1.getD j default))
def qAU (l : List Slice) (ds : List Defect) (ps : List qA) (r : Rect) (w : Saw) (t : Rates) : Line :=
 ⟨wid r, w.Kerf, 1, (sizes ps (r.Y.B - r.Y.A)).1, qFA l ds ps r w t (r.Y.B - r.Y.A), (List.range (wid r).toNat).map (fun x => t.Chip * sliv l r x), (List.range (wid r).toNat).map (fun x => t.Dust * sliv l r x)⟩
theorem qNq {l : List Slice} {ds : List Defect} {ps : List qA} {r : Rect} {w : Saw} {t : Rates} (h : VE l ds ps r w t) (z : Int) : JI l ds ps r w t (sizes ps z) FUEL 0 [] = some (qFA l ds ps r w t z) := by
 have hl := (qCy ps z).1
 let g : Nat → List Int := fun j => BX l ds (ps.getD ((sizes ps z).2.getD j default).toNat default) r w t ((sizes ps z).1.getD j default)
 have k := zS (sizes ps z).1.length (fun n (s : List (List Int)) x => JI l ds ps r w t (sizes ps z) n x s) (fun j s => s ++ [g j]) (fun s => s) (fun j s => s = (List.range j).map g) 0 (by omega) (by omega)
  (fun n j s hj hs => by
   have hlen : s.length = j := by rw [hs]; simp
   refine ⟨?_, by rw [hs, List.range_succ, List.map_append]; rfl⟩
   rw [JI, decide_eq_true (by omega), qS (by omega) (by omega), qLw h z hj, jH (by omega) (by omega), qU (by omega)]
   rfl)
  (fun n s _ => by rw [JI, decide_eq_false (by omega)]; rfl) [] rfl
 rw [show ((0 : Nat) : Int) = 0 from rfl, Nat.sub_zero] at k
 rw [k.1, k.2]; rfl
theorem qFi {l : List Slice} (h : VSol l) (r : Rect) (x : Nat) : 0 ≤ sliv l r x ∧ sliv l r x ≤ 28800000000 := ID h _ _ _
theorem qNE {l : List Slice} {ds : List Defect} {ps : List qA} {r : Rect} {w : Saw} {t : Rates} (h : VE l ds ps r w t) : JH l r t (qX l) FUEL 0 [] [] = some ((List.range (wid r).toNat).map (fun x => t.Chip * sliv l r x), (List.range (wid r).toNat).map (fun x => t.Dust * sliv l r x)) := by
 have hr := h.vr
 unfold VR at hr
 have hw := h.vw
 have k := zS (wid r).toNat (fun n (s : List Int × List Int) x => JH l r t (qX l) n x s.1 s.2) (fun x s => (s.1 ++ [t.Chip * sliv l r x], s.2 ++ [t.Dust * sliv l r x])) (fun s => s)
  (fun x s => s = ((List.range x).map (fun x => t.Chip * sliv l r x), (List.range x).map (fun x => t.Dust * sliv l r x))) 0 (by omega) (by unfold wid; omega)
  (fun n x s hx hs => by
   unfold wid at hx
   subst hs
   have sb := qFi h.sol r x
   have m1 := yD (a := t.Chip) (b := sliv l r x) (m := 1000) (n := 28800000000) (by have := hw.chip; omega) (by have := hw.chip; omega) (by omega) (by omega) (by omega) (by omega)
   have m2 := yD (a := t.Dust) (b := sliv l r x) (m := 1000) (n := 28800000000) (by have := hw.dust; omega) (by have := hw.dust; omega) (by omega) (by omega) (by omega) (by omega)
   refine ⟨?_, by simp only [List.range_succ, List.map_append]; rfl⟩
   simp only
   rw [JH, qJ (n := r.X.B - r.X.A) (by omega) (by omega), decide_eq_true (by omega), qJ (n := (x : Int) + 1) (by omega) (by omega), qK8 h.vr (by omega) (by omega)]
   simp only [cond_true, Option.bind_some, qMl h.sol, List.length_map, List.length_range]
   rw [jH (by omega) (by omega)]
   simp only [cond_true]
   rw [show volS l (DG r (x : Int) ((x : Int) + 1)).X (DG r (x : Int) ((x : Int) + 1)).Y ⟨0, qX l⟩ = sliv l r x from rfl, qJ (n := t.Chip * sliv l r x) (by omega) (by omega), qJ (n := t.Dust * sliv l r x) (by omega) (by omega), show (x : Int) + 1 = ((x + 1 : Nat) : Int) by omega])
  (fun n s _ => by
   try simp only
   unfold wid
   rw [JH, qJ (n := r.X.B - r.X.A) (by omega) (by omega), decide_eq_false (by omega)]; rfl) ([], []) rfl
 rw [show ((0 : Nat) : Int) = 0 from rfl, Nat.sub_zero] at k
 rw [k.1, k.2]
def qJR : Line := ⟨0, 0, 0, [], [], [], []⟩
open Classical in
noncomputable def IF (l : List Slice) (ds : List Defect) (ps : List qA) (r : Rect) (w : Saw) (t : Rates) : Line × Int := if chkE l ds ps r w t = 0 then (qAU l ds ps r w t, 0) else (qJR, chkE l ds ps r w t)
theorem Line_eq (l : List Slice) (ds : List Defect) (ps : List qA) (r : Rect) (w : Saw) (t : Rates) : NI l ds ps r w t = some (IF l ds ps r w t) := by
 unfold NI IF
 rw [chkE_eq]
 simp only [Option.bind_some]
 by_cases c : chkE l ds ps r w t = 0
 ·have h := qCO.1 c
  have hr := h.vr
  unfold VR at hr
  rw [if_pos c, c, qJ (n := r.Y.B - r.Y.A) (by omega) (by omega), (qJz ps _).1, (YG l).1, PJ h.sol, qJ (n := r.X.B - r.X.A) (by omega) (by omega)]
  simp only [bne_self_eq_false, cond_false, Option.bind_some, qNq h, qNE h]
  rfl
 ·rw [if_neg c, show (chkE l ds ps r w t != 0) = true by rw [bne_iff_ne]; exact c]; rfl
def okN (n : Int) : Prop := -1125899906842624 ≤ n ∧ n ≤ 1125899906842624
/-- A line that may be cut. -/
structure VL (a : Line) : Prop where
 len : 0 ≤ a.Len ∧ a.Len ≤ 2000
 kerf : 0 ≤ a.Kerf ∧ a.Kerf ≤ 20
 pitch : 1 ≤ a.Pitch ∧ a.Pitch ≤ 2000
 szl : a.Sizes.length ≤ 32
 sz : ∀ i, i < a.Sizes.length → 1 ≤ a.Sizes.getD i default ∧ a.Sizes.getD i default ≤ 2000
 gl : a.Gain.length = a.Sizes.length
 cl : (a.Chip.length : Int) = a.Len
 dl : (a.Dust.length : Int) = a.Len
 gr : ∀ i, i < a.Sizes.length → (a.Gain.getD i default).length = (a.Len - a.Sizes.getD i default + 1).toNat
 gb : ∀ i, i < a.Sizes.length → ∀ j, j < (a.Gain.getD i default).length → okN ((a.Gain.getD i default).getD j default)
 cb : ∀ j, j < a.Chip.length → okN (a.Chip.getD j default)
 db : ∀ j, j < a.Dust.length → okN (a.Dust.getD j default)
theorem qM7 {l : List Slice} {ds : List Defect} {ps : List qA} {r : Rect} {w : Saw} {t : Rates} (h : VE l ds ps r w t) : VL (qAU l ds ps r w t) := by
 have hr := h.vr
 unfold VR at hr
 have hw := h.vw
 have sl := qCy ps (r.Y.B - r.Y.A)
 have hd : WO ds = 0 := (YV ds).2 ⟨h.dl, h.dd⟩
 have gl : (qAU l ds ps r w t).Gain.length = (sizes ps (r.Y.B - r.Y.A)).1.length := by unfold qAU qFA; simp
 have ga : ∀ i, i < (sizes ps (r.Y.B - r.Y.A)).1.length → (qAU l ds ps r w t).Gain.getD i default = BX l ds (ps.getD ((sizes ps (r.Y.B - r.Y.A)).2.getD i default).toNat default) r w t ((sizes ps (r.Y.B - r.Y.A)).1.getD i default) := fun i hi => by
  unfold qAU qFA; simp only; rw [KN _ hi]
 have wb : wid r = r.X.B - r.X.A := rfl
 refine ⟨by show 0 ≤ wid r ∧ wid r ≤ 2000; omega, hw.kerf, ⟨show (1 : Int) ≤ 1 by decide, show (1 : Int) ≤ 2000 by decide⟩, by show (sizes ps (r.Y.B - r.Y.A)).1.length ≤ 32; omega, fun i hi => ?_, gl, ?_, ?_, fun i hi => ?_, fun i hi j hj => ?_, fun j hj => ?_, fun j hj => ?_⟩
 ·have := qBP h.pr (r.Y.B - r.Y.A) hi
  show 1 ≤ (sizes ps (r.Y.B - r.Y.A)).1.getD i default ∧ (sizes ps (r.Y.B - r.Y.A)).1.getD i default ≤ 2000
  omega
 ·show (((List.range (wid r).toNat).map _).length : Int) = wid r; simp; omega
 ·show (((List.range (wid r).toNat).map _).length : Int) = wid r; simp; omega
 ·rw [ga i hi]; unfold BX; simp; rfl
 ·have hi' : i < (sizes ps (r.Y.B - r.Y.A)).1.length := hi
  rw [ga i hi'] at hj ⊢
  obtain ⟨s1, s2, k, hk, ek, vp, c1⟩ := qBP h.pr (r.Y.B - r.Y.A) hi'
  unfold BX at hj ⊢
  simp only [List.length_map, List.length_range] at hj
  rw [KN _ hj, ek, Int.toNat_natCast]
  unfold HW
  split
  ·exact (qKZ h.sol hd c1 vp (qGw h.vr (by omega) (by omega) (by omega)) hw).2
  ·exact ⟨by decide, by decide⟩
 ·have hj' : j < (wid r).toNat := by simpa [qAU] using hj
  show okN (((List.range (wid r).toNat).map (fun x => t.Chip * sliv l r x)).getD j default)
  rw [KN _ hj']
  have sb := qFi h.sol r j
  have m1 := yD (a := t.Chip) (b := sliv l r j) (m := 1000) (n := 28800000000) (by have := hw.chip; omega) (by have := hw.chip; omega) (by omega) (by omega) (by omega) (by omega)
  unfold okN; omega
 ·have hj' : j < (wid r).toNat := by simpa [qAU] using hj
  show okN (((List.range (wid r).toNat).map (fun x => t.Dust * sliv l r x)).getD j default)
  rw [KN _ hj']
  have sb := qFi h.sol r j
  have m1 := yD (a := t.Dust) (b := sliv l r j) (m := 1000) (n := 28800000000) (by have := hw.dust; omega) (by have := hw.dust; omega) (by omega) (by omega) (by omega) (by omega)
  unfold okN; omega
theorem qHo {ε : Type} (N : Nat) (L : Nat → Int → Option (ε ⊕ Unit)) (hN : N ≤ 1000000000) (h0 : ∀ n i, i < N → L (n + 1) (i : Int) = L n ((i + 1 : Nat) : Int)) (h1 : ∀ n, L (n + 1) (N : Int) = some (.inr ())) : L FUEL 0 = some (.inr ()) := by
 have k := wF N L (fun _ => none) 0 (by omega) hN (fun n i _ hi => h0 n i hi) h1
 rw [WQ.2 (fun _ _ _ => rfl)] at k
 exact k
def pre (c : List Int) (k : Nat) : Int := sumN k (fun i => c.getD i default)
abbrev Ch := Cutting_choice
def noCh (v : Int) : Ch := ⟨⟨-1, -1⟩, v⟩
def isNo (c : Ch) : Bool := (c.piece.Size == -1) && (c.piece.At == -1)
def szAt (a : Line) (i : Nat) : Int := a.Sizes.getD i default
def gnAt (a : Line) (i : Nat) (p : Nat) : Int := (a.Gain.getD i default).getD p default
/-- Where the next piece may begin, behind a piece's end. -/
def nxtN (a : Line) (q : Nat) : Nat := (imin ((q : Int) + a.Kerf) a.Len).toNat
def endN (a : Line) (p i : Nat) : Nat := (p + szAt a i).toNat
def candV (a : Line) (best : Nat → Ch) (p i : Nat) : Int :=
 gnAt a i p + (if (endN a p i : Int) = a.Len then 0 else (pre a.Dust (nxtN a (endN a p i)) - pre a.Dust (endN a p i)) + (best (nxtN a (endN a p i))).value)
def qMe (a : Line) (best : Nat → Ch) (p i : Nat) (c : Ch) : Ch :=
 if (p : Int) + szAt a i > a.Len ∨ gnAt a i p < 0 then c
 else bif isNo c || decide (candV a best p i > c.value) then ⟨⟨(i : Int), (p : Int)⟩, candV a best p i⟩ else c
def startS (a : Line) (best : Nat → Ch) (p : Nat) : Ch := zX (qMe a best p) 0 a.Sizes.length (noCh 0)
def qM5 (a : Line) (st : Nat → Ch) (p : Nat) (x : Nat) (c : Ch) : Ch :=
 bif !isNo (st x) && decide ((st x).value + (pre a.Chip (x - a.Kerf.toNat) - pre a.Chip p + pre a.Dust x - pre a.Dust (x - a.Kerf.toNat)) > c.value) then ⟨(st x).piece, (st x).value + (pre a.Chip (x - a.Kerf.toNat) - pre a.Chip p + pre a.Dust x - pre a.Dust (x - a.Kerf.toNat))⟩ else c
def placeN (a : Line) (p k : Nat) : Nat := p + a.Kerf.toNat + (k + 1) * a.Pitch.toNat
def best0 (a : Line) (st : Nat → Ch) (p : Nat) : Ch :=
 bif !isNo (st p) && decide ((st p).value > pre a.Chip a.Len.toNat - pre a.Chip p) then st p else noCh (pre a.Chip a.Len.toNat - pre a.Chip p)
def placesN (a : Line) (p : Nat) : Nat := ((a.Len.toNat - (p + a.Kerf.toNat)) / a.Pitch.toNat)
def bestS (a : Line) (st : Nat → Ch) (p : Nat) : Ch := zX (fun k c => qM5 a st p (placeN a p k) c) 0 (placesN a p) (best0 a st p)
/-- The table after k places from the end: what is best from a place, and what is best if a piece begins there. -/
def tab (a : Line) : Nat → Nat → Ch × Ch
 | 0 => fun _ => (⟨⟨0, 0⟩, 0⟩, ⟨⟨0, 0⟩, 0⟩)
 | k + 1 => fun j =>
  if j = a.Len.toNat - k then
   (bestS a (fun x => if x = a.Len.toNat - k then startS a (fun y => (tab a k y).1) (a.Len.toNat - k) else (tab a k x).2) (a.Len.toNat - k), startS a (fun y => (tab a k y).1) (a.Len.toNat - k))
  else tab a k j
def BV (a : Line) (p : Nat) (v : Int) : Prop := -(2251799813685248 * (a.Len - p)) ≤ v ∧ v ≤ 2251799813685248 * (a.Len - p)
/-- How the lists stand beside the table. -/
structure TI (a : Line) (k : Nat) (s : List Ch × List Ch) : Prop where
 l1 : (s.1.length : Int) = a.Len + 1
 l2 : (s.2.length : Int) = a.Len + 1
 e1 : ∀ j, s.1.getD j default = (tab a k j).1
 e2 : ∀ j, s.2.getD j default = (tab a k j).2
 b1 : ∀ j, a.Len.toNat < j + k → (j : Int) ≤ a.Len → BV a j (tab a k j).1.value ∧ BV a j (tab a k j).2.value
/-! ### A start is the best of the pieces that fit there -/
def LeC (c d : Ch) : Prop := isNo c = true ∨ (isNo d = false ∧ c.value ≤ d.value)
theorem LeC.trans {c d e : Ch} (h : LeC c d) (k : LeC d e) : LeC c e := by
 unfold LeC at *
 rcases h with h | ⟨h1, h2⟩
 ·exact .inl h
 ·rcases k with k | ⟨k1, k2⟩
  ·rw [k] at h1; cases h1
  ·exact .inr ⟨k1, by omega⟩
/-! ### A best choice -/
end Saw
end Go.SL
