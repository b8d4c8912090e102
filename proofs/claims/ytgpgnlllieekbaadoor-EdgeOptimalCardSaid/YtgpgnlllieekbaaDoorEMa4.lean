/- Edge's plain mathematics, part 11: the gain of a piece at a place. -/
import Derived.Test.YtgpgnlllieekbaaDoorEMa3
set_option linter.unusedVariables false
set_option linter.unusedSimpArgs false
namespace Go.SL
namespace Saw

def bestR (l : List Slice) (ds : List Defect) (p : Product) (r : Rect) (step fine : Int) : Int × Bool × Span := bif dimOk r p then bestV (viewOf l ds p r) step fine else (0, false, ⟨0, 0⟩)
theorem zones_len (l : List Slice) (r : Rect) : (zones l r).length = l.length := by unfold zones; simp
theorem solLen_b {l : List Slice} (h : VSol l) : 1 ≤ solLen l ∧ solLen l ≤ 20000 := by
  have := h.bd (Nat.le_refl l.length)
  have := h.ne
  unfold solLen; omega
theorem bestR_BI {l : List Slice} {ds : List Defect} {p : Product} {r : Rect} {step fine : Int} (hf : 0 ≤ fine) (hp : VP p) : BI' (solLen l) (bestR l ds p r step fine) := by
  unfold bestR
  cases dimOk r p with
  | true => exact bestV_BI (v := viewOf l ds p r) hf hp
  | false => exact ⟨show (0 : Int) ≤ 0 by decide, show (0 : Int) ≤ 1000000 by decide, fun h => by cases h⟩
theorem wBest_eq {l : List Slice} {ds : List Defect} {p : Product} {r : Rect} {step fine : Int} (hs : VSol l) (hd : chk13 ds = 0) (hp : chk19 [p] = 0) (hv : VP p) (hr : VR r) (hst : 1 ≤ step ∧ step ≤ 20000) (hf : 0 ≤ fine ∧ fine ≤ 1000000) :
    worth_Best l ds p r step fine = some ((bestR l ds p r step fine).2.2, (bestR l ds p r step fine).1, (bestR l ds p r step fine).2.1) := by
  have hdl := ((chk13_zero ds).1 hd).1
  have hl := hs.len
  unfold worth_Best worth_Best_k1
  rw [isStep_eq, isFine_eq, decide_eq_true hst, decide_eq_true hf]
  simp only [Option.bind_some, Bool.not_true, cond_false, look_eq hs hd hp hr]
  unfold bestR
  cases dimOk r p with
  | false => rfl
  | true =>
    simp only [cond_true, Bool.not_true, cond_false]
    have nl := near_len ds ⟨r.X, r.Y, ⟨0, solLen l⟩⟩
    have sb := solLen_b hs
    have k := bestV_eq (viewOf l ds p r) (step := step) hf hst hv (by show (near ds _).length ≤ 64; omega) (by show (zones l r).length ≤ 1000000; rw [zones_len]; omega) ⟨by show 0 ≤ solLen l; omega, sb.2⟩ true
    rw [show (viewOf l ds p r).product = p from rfl] at k
    rw [k]; rfl
/-- The gain of a product's piece in a rectangle, -1 if there is none. -/
def gainS (l : List Slice) (ds : List Defect) (p : Product) (r : Rect) (w : Saw) (t : Rates) : Int :=
  bif (bestR l ds p r w.Step t.Fine).2.1 then
    (1000000 * (bestR l ds p r w.Step t.Fine).1
      + t.Dust * (volS l r.X r.Y ⟨imax 0 ((bestR l ds p r w.Step t.Fine).2.2.A - w.Trim), (bestR l ds p r w.Step t.Fine).2.2.A⟩ + volS l r.X r.Y ⟨(bestR l ds p r w.Step t.Fine).2.2.B, imin ((bestR l ds p r w.Step t.Fine).2.2.B + w.Trim) (solLen l)⟩))
      + t.Chip * (volS l r.X r.Y ⟨0, solLen l⟩ - volS l r.X r.Y (bestR l ds p r w.Step t.Fine).2.2
          - (volS l r.X r.Y ⟨imax 0 ((bestR l ds p r w.Step t.Fine).2.2.A - w.Trim), (bestR l ds p r w.Step t.Fine).2.2.A⟩ + volS l r.X r.Y ⟨(bestR l ds p r w.Step t.Fine).2.2.B, imin ((bestR l ds p r w.Step t.Fine).2.2.B + w.Trim) (solLen l)⟩))
  else -1
theorem gain_eq {l : List Slice} {ds : List Defect} {p : Product} {r : Rect} {w : Saw} {t : Rates} (hs : VSol l) (hd : chk13 ds = 0) (hp : chk19 [p] = 0) (hv : VP p) (hr : VR r) (hw : VW w t) :
    edge_gain l ds p r w t = some (gainS l ds p r w t) ∧ -1125899906842624 ≤ gainS l ds p r w t ∧ gainS l ds p r w t ≤ 1125899906842624 := by
  unfold edge_gain gainS
  rw [wBest_eq hs hd hp hv hr hw.step hw.fine]
  have B := bestR_BI (l := l) (ds := ds) (p := p) (r := r) (step := w.Step) hw.fine.1 hv
  generalize bestR l ds p r w.Step t.Fine = b at *
  obtain ⟨v, f, z⟩ := b
  simp only [Option.bind_some] at *
  cases f with
  | false => exact ⟨rfl, show (-1125899906842624 : Int) ≤ -1 by decide, show (-1 : Int) ≤ 1125899906842624 by decide⟩
  | true =>
    obtain ⟨b1, b2, b3⟩ := B
    have b3 := b3 rfl
    simp only at b1 b2 b3
    simp only [Bool.not_true, cond_false, cond_true]
    have sb := solLen_b hs
    have tr := hw.trim
    rw [(Length_eq l).1, valL_of hs]
    simp only [Option.bind_some, vol_eq hs]
    rw [w64_id (n := z.A - w.Trim) (by omega) (by omega), w64_id (n := z.B + w.Trim) (by omega) (by omega)]
    have v1 := vol_b hs r.X r.Y ⟨0, solLen l⟩
    have v2 := vol_b hs r.X r.Y z
    have v3 := vol_b hs r.X r.Y ⟨imax 0 (z.A - w.Trim), z.A⟩
    have v4 := vol_b hs r.X r.Y ⟨z.B, imin (z.B + w.Trim) (solLen l)⟩
    generalize volS l r.X r.Y ⟨0, solLen l⟩ = x1 at *
    generalize volS l r.X r.Y z = x2 at *
    generalize volS l r.X r.Y ⟨imax 0 (z.A - w.Trim), z.A⟩ = x3 at *
    generalize volS l r.X r.Y ⟨z.B, imin (z.B + w.Trim) (solLen l)⟩ = x4 at *
    have m1 := mul_bound (a := t.Dust) (b := x3 + x4) (m := 1000) (n := 57600000000) (by have := hw.dust; omega) (by have := hw.dust; omega) (by omega) (by omega) (by omega) (by omega)
    have m2 := mul_bound (a := t.Chip) (b := x1 - x2 - (x3 + x4)) (m := 1000) (n := 86400000000) (by have := hw.chip; omega) (by have := hw.chip; omega) (by omega) (by omega) (by omega) (by omega)
    rw [w64_id (n := 1000000 * v) (by omega) (by omega), w64_id (n := x3 + x4) (by omega) (by omega), w64_id (n := x1 - x2) (by omega) (by omega), w64_id (n := x1 - x2 - (x3 + x4)) (by omega) (by omega)]
    generalize t.Dust * (x3 + x4) = y1 at *
    generalize t.Chip * (x1 - x2 - (x3 + x4)) = y2 at *
    rw [w64_id (n := y1) (by omega) (by omega), w64_id (n := y2) (by omega) (by omega), w64_id (n := 1000000 * v + y1) (by omega) (by omega), w64_id (by omega) (by omega)]
    exact ⟨rfl, by omega, by omega⟩
end Saw
end Go.SL

namespace Go.SL
namespace Saw

structure SzI (l : List Product) (x : Nat) (s : List Int × List Int) : Prop where
  len : s.1.length = s.2.length
  le : s.1.length ≤ x
  at_ : ∀ j, j < s.1.length → ∃ i : Nat, i < x ∧ s.2.getD j default = (i : Int) ∧ (s.1.getD j default = (green (l.getD i default)).1 ∨ s.1.getD j default = (green (l.getD i default)).2)
theorem getD_snoc {α : Type} [Inhabited α] {l : List α} {x : α} {i : Nat} (h : i ≤ l.length) : (l ++ [x]).getD i default = if i < l.length then l.getD i default else x := by
  simp only [List.getD_eq_getElem?_getD, List.getElem?_append]
  by_cases c : i < l.length
  · simp [c]
  · have : i = l.length := by omega
    subst this; simp
theorem szI_snoc {l : List Product} {x : Nat} {s : List Int × List Int} (h : SzI l x s) {v : Int} (hv : v = (green (l.getD x default)).1 ∨ v = (green (l.getD x default)).2) : SzI l (x + 1) (s.1 ++ [v], s.2 ++ [(x : Int)]) := by
  have h1 := h.len
  have h2 := h.le
  refine ⟨by simp [h1], by simp; omega, fun j hj => ?_⟩
  simp only [List.length_append, List.length_cons, List.length_nil] at hj
  simp only
  rw [getD_snoc (by omega), getD_snoc (by omega)]
  by_cases c : j < s.1.length
  · rw [if_pos c, if_pos (by omega)]
    obtain ⟨i, a, b, d⟩ := h.at_ j c
    exact ⟨i, by omega, b, d⟩
  · rw [if_neg c, if_neg (by omega)]
    exact ⟨x, by omega, rfl, hv⟩
theorem szI_mono {l : List Product} {x : Nat} {s : List Int × List Int} (h : SzI l x s) : SzI l (x + 1) s := ⟨h.len, by have := h.le; omega, fun j hj => by obtain ⟨i, a, b⟩ := h.at_ j hj; exact ⟨i, by omega, b⟩⟩
theorem sizes_I {l : List Product} (hc : chk19 l = 0) (t : Int) : SzI l l.length (sizes l t) := by
  unfold sizes
  rw [if_neg (by omega)]
  have : ∀ k, SzI l k (foldN (sizStep l t) 0 k ([], [])) := by
    intro k
    induction k with
    | zero => exact ⟨rfl, by simp [foldN], fun j hj => by simp [foldN] at hj⟩
    | succ k ih =>
      rw [foldN_succ, Nat.zero_add]
      unfold sizStep
      cases (green (l.getD k default)).1 == t with
      | true => exact szI_snoc ih (.inr rfl)
      | false => cases (green (l.getD k default)).2 == t with
        | true => exact szI_snoc ih (.inl rfl)
        | false => exact szI_mono ih
  exact this _
theorem green_pos {p : Product} (h : VP p) : 5 ≤ (green p).1 ∧ (green p).1 ≤ 721 ∧ 5 ≤ (green p).2 ∧ (green p).2 ≤ 600 := by
  have b := green_bd p
  have g := h.gr
  have t := h.th
  have w := h.wd
  have a := h.al
  have e : okG p = true := okG_iff.2 ⟨by omega, by omega, a⟩
  have g1 := grow_eq (n := p.Thick) (a := p.Allow) (by omega) (by omega) a.1 a.2
  have g2 := grow_eq (n := p.Width) (a := p.Allow) (by omega) (by omega) a.1 a.2
  have eg : green p = (grown p.Thick p.Allow, grown p.Width p.Allow) := by unfold green; rw [e]; rfl
  rw [eg] at b g ⊢
  simp only at b g ⊢
  omega
theorem sizes_at {l : List Product} (hc : chk19 l = 0) (t : Int) {j : Nat} (hj : j < (sizes l t).1.length) : 5 ≤ (sizes l t).1.getD j default ∧ (sizes l t).1.getD j default ≤ 721 ∧ ∃ i : Nat, i < l.length ∧ (sizes l t).2.getD j default = (i : Int) ∧ VP (l.getD i default) ∧ chk19 [l.getD i default] = 0 := by
  obtain ⟨i, a, b, c⟩ := (sizes_I hc t).at_ j hj
  have v := chk19_VP hc a
  have g := green_pos v
  refine ⟨by omega, by omega, i, a, b, v, chk19_one hc a⟩
def partR (r : Rect) (a b : Int) : Rect := ⟨⟨r.X.A + a, r.X.A + b⟩, r.Y⟩
theorem part_eq {r : Rect} (h : VR r) {a b : Int} (h1 : -2000 ≤ a ∧ a ≤ 2000) (h2 : -2000 ≤ b ∧ b ≤ 2000) : edge_part r a b = some (partR r a b) := by
  unfold VR at h
  unfold edge_part partR
  rw [w64_id (by omega) (by omega), w64_id (by omega) (by omega)]
theorem part_VR {r : Rect} (h : VR r) {a b : Int} (h1 : 0 ≤ a) (h2 : a < b) (h3 : b ≤ r.X.B - r.X.A) : VR (partR r a b) := by
  unfold VR at *
  unfold partR
  simp only
  omega
end Saw
end Go.SL

namespace Go.SL
namespace Saw

def wid (r : Rect) : Int := r.X.B - r.X.A
def gainAt (l : List Slice) (ds : List Defect) (p : Product) (r : Rect) (w : Saw) (t : Rates) (sz : Int) (x : Nat) : Int :=
  if (x : Int) % w.Pitch = 0 then gainS l ds p (partR r x (x + sz)) w t else -1
def gainRow (l : List Slice) (ds : List Defect) (p : Product) (r : Rect) (w : Saw) (t : Rates) (sz : Int) : List Int := (List.range (wid r - sz + 1).toNat).map (gainAt l ds p r w t sz)
theorem gainRow_eq {l : List Slice} {ds : List Defect} {ps : List Product} {r : Rect} {w : Saw} {t : Rates} (h : VE l ds ps r w t) (z : Int) {j : Nat} (hj : j < (sizes ps z).1.length) :
    edge_Line_L2 l ds ps r w t (sizes ps z) (j : Int) FUEL [] 0 = some (gainRow l ds (ps.getD ((sizes ps z).2.getD j default).toNat default) r w t ((sizes ps z).1.getD j default)) := by
  obtain ⟨s1, s2, i, hi, ei, vp, c1⟩ := sizes_at h.pr z hj
  have hsl := (sizes_I h.pr z).len
  have hr := h.vr
  have hr' := hr
  unfold VR at hr'
  have hw := h.vw
  have hp := hw.pitch
  have hd : chk13 ds = 0 := (chk13_zero ds).2 ⟨h.dl, h.dd⟩
  rw [ei, Int.toNat_natCast]
  generalize hsz : (sizes ps z).1.getD j default = sz at *
  have k := loop_foldN (wid r - sz + 1).toNat (fun n (s : List Int) x => edge_Line_L2 l ds ps r w t (sizes ps z) (j : Int) n s x) (fun x s => s ++ [gainAt l ds (ps.getD i default) r w t sz x]) (fun s => s)
    (fun x s => s = (List.range x).map (gainAt l ds (ps.getD i default) r w t sz)) 0 (by omega) (by unfold wid; omega)
    (fun n x s hx hs => by
      unfold wid at hx
      have hlen : s.length = x := by rw [hs]; simp
      refine ⟨?_, by rw [hs, List.range_succ, List.map_append]; rfl⟩
      rw [edge_Line_L2]
      simp only [Int.toNat_natCast, hsz, ei]
      rw [w64_id (n := (x : Int) + sz) (by omega) (by omega), w64_id (n := r.X.B - r.X.A) (by omega) (by omega), decide_eq_true (by omega), nz_t (by omega), inb_t (by omega) (by omega), inb_t (by omega) (by omega), part_eq hr (by omega) (by omega)]
      simp only [cond_true, Option.bind_some, edge_Line_k3, inc_eq (show x < 4611686018427387904 by omega)]
      rw [room_small (by omega) (by omega), (gain_eq h.sol hd c1 vp (part_VR hr (a := (x : Int)) (b := (x : Int) + sz) (by omega) (by omega) (by omega)) hw).1]
      simp only [cond_true, Option.bind_some, gainAt]
      have em : Int.tmod (x : Int) w.Pitch = (x : Int) % w.Pitch := Int.tmod_eq_emod_of_nonneg (by omega)
      rw [em]
      by_cases c : (x : Int) % w.Pitch = 0
      · rw [if_pos c, c]; rfl
      · rw [if_neg c, show ((x : Int) % w.Pitch == 0) = false by rw [beq_eq_false_iff_ne]; exact c]; rfl)
    (fun n s _ => by
      rw [edge_Line_L2]
      simp only [Int.toNat_natCast, hsz]
      unfold wid
      rw [w64_id (n := (((r.X.B - r.X.A - sz + 1).toNat : Nat) : Int) + sz) (by omega) (by omega), w64_id (n := r.X.B - r.X.A) (by omega) (by omega), decide_eq_false (by omega)]; rfl) [] rfl
  rw [show ((0 : Nat) : Int) = 0 from rfl, Nat.sub_zero] at k
  rw [k.1, k.2]
  rfl
end Saw
end Go.SL

namespace Go.SL
namespace Saw

def sliv (l : List Slice) (r : Rect) (x : Nat) : Int := volS l (partR r x (x + 1)).X r.Y ⟨0, solLen l⟩
def gains (l : List Slice) (ds : List Defect) (ps : List Product) (r : Rect) (w : Saw) (t : Rates) (z : Int) : List (List Int) :=
  (List.range (sizes ps z).1.length).map (fun j => gainRow l ds (ps.getD ((sizes ps z).2.getD j default).toNat default) r w t ((sizes ps z).1.getD j default))
def lineS (l : List Slice) (ds : List Defect) (ps : List Product) (r : Rect) (w : Saw) (t : Rates) : Line :=
  ⟨wid r, w.Kerf, 1, (sizes ps (r.Y.B - r.Y.A)).1, gains l ds ps r w t (r.Y.B - r.Y.A), (List.range (wid r).toNat).map (fun x => t.Chip * sliv l r x), (List.range (wid r).toNat).map (fun x => t.Dust * sliv l r x)⟩
theorem gains_eq {l : List Slice} {ds : List Defect} {ps : List Product} {r : Rect} {w : Saw} {t : Rates} (h : VE l ds ps r w t) (z : Int) : edge_Line_L1 l ds ps r w t (sizes ps z) FUEL 0 [] = some (gains l ds ps r w t z) := by
  have hl := (sizes_len ps z).1
  let g : Nat → List Int := fun j => gainRow l ds (ps.getD ((sizes ps z).2.getD j default).toNat default) r w t ((sizes ps z).1.getD j default)
  have k := loop_foldN (sizes ps z).1.length (fun n (s : List (List Int)) x => edge_Line_L1 l ds ps r w t (sizes ps z) n x s) (fun j s => s ++ [g j]) (fun s => s) (fun j s => s = (List.range j).map g) 0 (by omega) (by omega)
    (fun n j s hj hs => by
      have hlen : s.length = j := by rw [hs]; simp
      refine ⟨?_, by rw [hs, List.range_succ, List.map_append]; rfl⟩
      rw [edge_Line_L1, decide_eq_true (by omega), inb_t (by omega) (by omega), gainRow_eq h z hj, room_small (by omega) (by omega), inc_eq (by omega)]
      rfl)
    (fun n s _ => by rw [edge_Line_L1, decide_eq_false (by omega)]; rfl) [] rfl
  rw [show ((0 : Nat) : Int) = 0 from rfl, Nat.sub_zero] at k
  rw [k.1, k.2]; rfl
theorem sliv_b {l : List Slice} (h : VSol l) (r : Rect) (x : Nat) : 0 ≤ sliv l r x ∧ sliv l r x ≤ 28800000000 := vol_b h _ _ _
theorem chips_eq {l : List Slice} {ds : List Defect} {ps : List Product} {r : Rect} {w : Saw} {t : Rates} (h : VE l ds ps r w t) : edge_Line_L4 l r t (solLen l) FUEL 0 [] [] = some ((List.range (wid r).toNat).map (fun x => t.Chip * sliv l r x), (List.range (wid r).toNat).map (fun x => t.Dust * sliv l r x)) := by
  have hr := h.vr
  unfold VR at hr
  have hw := h.vw
  have k := loop_foldN (wid r).toNat (fun n (s : List Int × List Int) x => edge_Line_L4 l r t (solLen l) n x s.1 s.2) (fun x s => (s.1 ++ [t.Chip * sliv l r x], s.2 ++ [t.Dust * sliv l r x])) (fun s => s)
    (fun x s => s = ((List.range x).map (fun x => t.Chip * sliv l r x), (List.range x).map (fun x => t.Dust * sliv l r x))) 0 (by omega) (by unfold wid; omega)
    (fun n x s hx hs => by
      unfold wid at hx
      subst hs
      have sb := sliv_b h.sol r x
      have m1 := mul_bound (a := t.Chip) (b := sliv l r x) (m := 1000) (n := 28800000000) (by have := hw.chip; omega) (by have := hw.chip; omega) (by omega) (by omega) (by omega) (by omega)
      have m2 := mul_bound (a := t.Dust) (b := sliv l r x) (m := 1000) (n := 28800000000) (by have := hw.dust; omega) (by have := hw.dust; omega) (by omega) (by omega) (by omega) (by omega)
      refine ⟨?_, by simp only [List.range_succ, List.map_append]; rfl⟩
      simp only
      rw [edge_Line_L4, w64_id (n := r.X.B - r.X.A) (by omega) (by omega), decide_eq_true (by omega), w64_id (n := (x : Int) + 1) (by omega) (by omega), part_eq h.vr (by omega) (by omega)]
      simp only [cond_true, Option.bind_some, vol_eq h.sol, List.length_map, List.length_range]
      rw [room_small (by omega) (by omega)]
      simp only [cond_true]
      rw [show volS l (partR r (x : Int) ((x : Int) + 1)).X (partR r (x : Int) ((x : Int) + 1)).Y ⟨0, solLen l⟩ = sliv l r x from rfl, w64_id (n := t.Chip * sliv l r x) (by omega) (by omega), w64_id (n := t.Dust * sliv l r x) (by omega) (by omega), show (x : Int) + 1 = ((x + 1 : Nat) : Int) by omega])
    (fun n s _ => by
      try simp only
      unfold wid
      rw [edge_Line_L4, w64_id (n := r.X.B - r.X.A) (by omega) (by omega), decide_eq_false (by omega)]; rfl) ([], []) rfl
  rw [show ((0 : Nat) : Int) = 0 from rfl, Nat.sub_zero] at k
  rw [k.1, k.2]
def noLine : Line := ⟨0, 0, 0, [], [], [], []⟩
open Classical in
noncomputable def lineR (l : List Slice) (ds : List Defect) (ps : List Product) (r : Rect) (w : Saw) (t : Rates) : Line × Int := if chkE l ds ps r w t = 0 then (lineS l ds ps r w t, 0) else (noLine, chkE l ds ps r w t)
theorem Line_eq (l : List Slice) (ds : List Defect) (ps : List Product) (r : Rect) (w : Saw) (t : Rates) : edge_Line l ds ps r w t = some (lineR l ds ps r w t) := by
  unfold edge_Line lineR
  rw [chkE_eq]
  simp only [Option.bind_some]
  by_cases c : chkE l ds ps r w t = 0
  · have h := chkE_zero.1 c
    have hr := h.vr
    unfold VR at hr
    rw [if_pos c, c, w64_id (n := r.Y.B - r.Y.A) (by omega) (by omega), (Sizes_eq ps _).1, (Length_eq l).1, valL_of h.sol, w64_id (n := r.X.B - r.X.A) (by omega) (by omega)]
    simp only [bne_self_eq_false, cond_false, Option.bind_some, gains_eq h, chips_eq h]
    rfl
  · rw [if_neg c, show (chkE l ds ps r w t != 0) = true by rw [bne_iff_ne]; exact c]; rfl
end Saw
end Go.SL

namespace Go.SL
namespace Saw

def okN (n : Int) : Prop := -1125899906842624 ≤ n ∧ n ≤ 1125899906842624
/-- A line that may be cut. -/
structure VL (a : Line) : Prop where
  len : 0 ≤ a.Len ∧ a.Len ≤ 2000
  kerf : 0 ≤ a.Kerf ∧ a.Kerf ≤ 20
  pitch : 1 ≤ a.Pitch ∧ a.Pitch ≤ 2000
  szl : a.Sizes.length ≤ 32
  sz : ∀ i, i < a.Sizes.length → 1 ≤ a.Sizes.getD i default ∧ a.Sizes.getD i default ≤ 2000
  gl : a.Gain.length = a.Sizes.length
  cl : (a.Chip.length : Int) = a.Len
  dl : (a.Dust.length : Int) = a.Len
  gr : ∀ i, i < a.Sizes.length → (a.Gain.getD i default).length = (a.Len - a.Sizes.getD i default + 1).toNat
  gb : ∀ i, i < a.Sizes.length → ∀ j, j < (a.Gain.getD i default).length → okN ((a.Gain.getD i default).getD j default)
  cb : ∀ j, j < a.Chip.length → okN (a.Chip.getD j default)
  db : ∀ j, j < a.Dust.length → okN (a.Dust.getD j default)
theorem lineS_VL {l : List Slice} {ds : List Defect} {ps : List Product} {r : Rect} {w : Saw} {t : Rates} (h : VE l ds ps r w t) : VL (lineS l ds ps r w t) := by
  have hr := h.vr
  unfold VR at hr
  have hw := h.vw
  have sl := sizes_len ps (r.Y.B - r.Y.A)
  have hd : chk13 ds = 0 := (chk13_zero ds).2 ⟨h.dl, h.dd⟩
  have gl : (lineS l ds ps r w t).Gain.length = (sizes ps (r.Y.B - r.Y.A)).1.length := by unfold lineS gains; simp
  have ga : ∀ i, i < (sizes ps (r.Y.B - r.Y.A)).1.length → (lineS l ds ps r w t).Gain.getD i default = gainRow l ds (ps.getD ((sizes ps (r.Y.B - r.Y.A)).2.getD i default).toNat default) r w t ((sizes ps (r.Y.B - r.Y.A)).1.getD i default) := fun i hi => by
    unfold lineS gains; simp only; rw [getD_range _ hi]
  have wb : wid r = r.X.B - r.X.A := rfl
  refine ⟨by show 0 ≤ wid r ∧ wid r ≤ 2000; omega, hw.kerf, ⟨show (1 : Int) ≤ 1 by decide, show (1 : Int) ≤ 2000 by decide⟩, by show (sizes ps (r.Y.B - r.Y.A)).1.length ≤ 32; omega, fun i hi => ?_, gl, ?_, ?_, fun i hi => ?_, fun i hi j hj => ?_, fun j hj => ?_, fun j hj => ?_⟩
  · have := sizes_at h.pr (r.Y.B - r.Y.A) hi
    show 1 ≤ (sizes ps (r.Y.B - r.Y.A)).1.getD i default ∧ (sizes ps (r.Y.B - r.Y.A)).1.getD i default ≤ 2000
    omega
  · show (((List.range (wid r).toNat).map _).length : Int) = wid r; simp; omega
  · show (((List.range (wid r).toNat).map _).length : Int) = wid r; simp; omega
  · rw [ga i hi]; unfold gainRow; simp; rfl
  · have hi' : i < (sizes ps (r.Y.B - r.Y.A)).1.length := hi
    rw [ga i hi'] at hj ⊢
    obtain ⟨s1, s2, k, hk, ek, vp, c1⟩ := sizes_at h.pr (r.Y.B - r.Y.A) hi'
    unfold gainRow at hj ⊢
    simp only [List.length_map, List.length_range] at hj
    rw [getD_range _ hj, ek, Int.toNat_natCast]
    unfold gainAt
    split
    · exact (gain_eq h.sol hd c1 vp (part_VR h.vr (by omega) (by omega) (by omega)) hw).2
    · exact ⟨by decide, by decide⟩
  · have hj' : j < (wid r).toNat := by simpa [lineS] using hj
    show okN (((List.range (wid r).toNat).map (fun x => t.Chip * sliv l r x)).getD j default)
    rw [getD_range _ hj']
    have sb := sliv_b h.sol r j
    have m1 := mul_bound (a := t.Chip) (b := sliv l r j) (m := 1000) (n := 28800000000) (by have := hw.chip; omega) (by have := hw.chip; omega) (by omega) (by omega) (by omega) (by omega)
    unfold okN; omega
  · have hj' : j < (wid r).toNat := by simpa [lineS] using hj
    show okN (((List.range (wid r).toNat).map (fun x => t.Dust * sliv l r x)).getD j default)
    rw [getD_range _ hj']
    have sb := sliv_b h.sol r j
    have m1 := mul_bound (a := t.Dust) (b := sliv l r j) (m := 1000) (n := 28800000000) (by have := hw.dust; omega) (by have := hw.dust; omega) (by omega) (by omega) (by omega) (by omega)
    unfold okN; omega
end Saw
end Go.SL

namespace Go.SL
namespace Saw

theorem loop_none {ε : Type} (N : Nat) (L : Nat → Int → Option (ε ⊕ Unit)) (hN : N ≤ 1000000000) (h0 : ∀ n i, i < N → L (n + 1) (i : Int) = L n ((i + 1 : Nat) : Int)) (h1 : ∀ n, L (n + 1) (N : Int) = some (.inr ())) : L FUEL 0 = some (.inr ()) := by
  have k := loop_findN N L (fun _ => none) 0 (by omega) hN (fun n i _ hi => h0 n i hi) h1
  rw [findN_none.2 (fun _ _ _ => rfl)] at k
  exact k
theorem small_ok {g : List (List Int)} (hl : g.length ≤ 1000000) (h : ∀ i, i < g.length → (g.getD i default).length ≤ 1000000 ∧ ∀ j, j < (g.getD i default).length → okN ((g.getD i default).getD j default)) : cutting_small g = some true := by
  unfold cutting_small
  rw [loop_none g.length (cutting_small_L1 g) (by omega) (fun n i hi => ?_) (fun n => ?_)]
  · rfl
  · obtain ⟨a, b⟩ := h i hi
    rw [cutting_small_L1, decide_eq_true (by omega), inb_t (by omega) (by omega), loop_none (g.getD i default).length (cutting_small_L2 g (i : Int)) (by omega) (fun n j hj => ?_) (fun n => ?_)]
    · simp only [cond_true, Option.bind_some, Sum.elim_inr, inc_eq (show i < 4611686018427387904 by omega)]
    · have o := b j hj
      unfold okN at o
      rw [cutting_small_L2]
      simp only [Int.toNat_natCast, cutting_small_k3]
      rw [decide_eq_true (by omega), inb_t (by omega) (by omega), decide_eq_false (show ¬ (g.getD i default).getD j default < -1125899906842624 by omega), decide_eq_false (show ¬ (g.getD i default).getD j default > 1125899906842624 by omega), inc_eq (by omega)]
      rfl
    · rw [cutting_small_L2]
      simp only [Int.toNat_natCast]
      rw [decide_eq_false (by omega)]; rfl
  · rw [cutting_small_L1, decide_eq_false (by omega)]; rfl
theorem cutCheck_ok {a : Line} (h : VL a) : cutting_Check a = some 0 := by
  have h1 := h.len
  have h2 := h.kerf
  have h3 := h.pitch
  have h4 := h.szl
  have h5 := h.gl
  have h6 := h.cl
  have h7 := h.dl
  have M : cutting_measures a = some 0 := by
    unfold cutting_measures cutting_measures_k1
    rw [decide_eq_false (show ¬ a.Len < 0 by omega), decide_eq_false (show ¬ a.Len > 2000 by omega), decide_eq_false (show ¬ a.Kerf < 0 by omega), decide_eq_false (show ¬ a.Kerf > 20 by omega), decide_eq_false (show ¬ a.Pitch < 1 by omega), decide_eq_false (show ¬ a.Pitch > 2000 by omega), decide_eq_false (show ¬ ((a.Sizes.length : Nat) : Int) > 32 by omega)]
    simp only [cond_false]
    rw [loop_none a.Sizes.length (cutting_measures_L2 a) (by omega) (fun n i hi => ?_) (fun n => ?_)]
    · rfl
    · have := h.sz i hi
      rw [cutting_measures_L2, decide_eq_true (by omega), inb_t (by omega) (by omega)]
      simp only [cond_true, Int.toNat_natCast, cutting_measures_k3, inc_eq (show i < 4611686018427387904 by omega)]
      rw [decide_eq_false (show ¬ a.Sizes.getD i default < 1 by omega), decide_eq_false (show ¬ a.Sizes.getD i default > 2000 by omega)]
      rfl
    · rw [cutting_measures_L2, decide_eq_false (by omega)]; rfl
  unfold cutting_Check cutting_Check_k1 cutting_Check_k3
  rw [M]
  simp only [Option.bind_some, bne_self_eq_false, cond_false]
  rw [show (((a.Gain.length : Nat) : Int) != ((a.Sizes.length : Nat) : Int)) = false by rw [bne_eq_false_iff_eq]; omega, show (((a.Chip.length : Nat) : Int) != a.Len) = false by rw [bne_eq_false_iff_eq]; omega, show (((a.Dust.length : Nat) : Int) != a.Len) = false by rw [bne_eq_false_iff_eq]; omega]
  simp only [cond_false]
  rw [loop_none a.Gain.length (cutting_Check_L2 a) (by omega) (fun n i hi => ?_) (fun n => ?_), small_ok (by omega) (fun i hi => ⟨?_, fun j hj => h.gb i (by omega) j hj⟩), small_ok (by simp) (fun i hi => ?_)]
  · rfl
  · match i, hi with
    | 0, _ => exact ⟨by show a.Chip.length ≤ 1000000; omega, h.cb⟩
    | 1, _ => exact ⟨by show a.Dust.length ≤ 1000000; omega, h.db⟩
    | i + 2, hi => simp at hi; omega
  · rw [h.gr i (by omega)]; have := h.sz i (by omega); omega
  · have s := h.sz i (by omega)
    have g := h.gr i (by omega)
    rw [cutting_Check_L2, decide_eq_true (by omega), inb_t (by omega) (by omega), inb_t (by omega) (by omega)]
    simp only [cond_true, Int.toNat_natCast, inc_eq (show i < 4611686018427387904 by omega), cutting_places, Option.bind_some]
    rw [w64_id (n := a.Len - a.Sizes.getD i default) (by omega) (by omega), w64_id (by omega) (by omega), g]
    have m := imax_or 0 (a.Len - a.Sizes.getD i default + 1)
    rw [show ((((a.Len - a.Sizes.getD i default + 1).toNat : Nat) : Int) != imax 0 (a.Len - a.Sizes.getD i default + 1)) = false by rw [bne_eq_false_iff_eq]; omega]
    rfl
  · rw [cutting_Check_L2, decide_eq_false (by omega)]; rfl
end Saw
end Go.SL

namespace Go.SL
namespace Saw

def pre (c : List Int) (k : Nat) : Int := sumN k (fun i => c.getD i default)
theorem pre_succ (c : List Int) (k : Nat) : pre c (k + 1) = pre c k + c.getD k default := rfl
theorem pre_b {c : List Int} (h : ∀ j, j < c.length → okN (c.getD j default)) : ∀ {k : Nat}, k ≤ c.length → -(1125899906842624 * (k : Int)) ≤ pre c k ∧ pre c k ≤ 1125899906842624 * (k : Int)
  | 0, _ => by simp [pre, sumN]
  | k + 1, hk => by
    have a := pre_b h (k := k) (by omega)
    have b := h k (by omega)
    unfold okN at b
    rw [pre_succ]; omega
def sums (c : List Int) : List Int := (List.range (c.length + 1)).map (pre c)
theorem sums_eq {c : List Int} (hl : c.length ≤ 2000) (h : ∀ j, j < c.length → okN (c.getD j default)) : cutting_sums c = some (sums c) := by
  unfold cutting_sums
  rw [w64_id (n := ((c.length : Nat) : Int) + 1) (by omega) (by omega), show ((c.length : Nat) : Int) + 1 = ((c.length + 1 : Nat) : Int) by omega, mkOk_t (by omega) (by omega), Int.toNat_natCast]
  simp only [cond_true]
  have k := loop_foldN c.length (fun n (s : List Int) i => cutting_sums_L1 c n s i) (fun i s => s.set (i + 1) (pre c (i + 1))) (fun s => s) (fun i s => s.length = c.length + 1 ∧ ∀ j, j ≤ i → s.getD j default = pre c j) 0 (by omega) (by omega)
    (fun n i s hi hs => by
      obtain ⟨e1, e2⟩ := hs
      have p := pre_b h (k := i) (by omega)
      have q := pre_b h (k := i + 1) (by omega)
      rw [pre_succ] at q
      refine ⟨?_, by simpa using e1, fun j hj => ?_⟩
      · rw [cutting_sums_L1, decide_eq_true (by omega), inc_eq (by omega), inb_t (by omega) (by omega), inb_t (by omega) (by omega), inb_t (by omega) (by omega)]
        simp only [cond_true, Int.toNat_natCast]
        rw [e2 i (Nat.le_refl _), w64_id (by omega) (by omega), pre_succ]
      · by_cases c1 : j = i + 1
        · subst c1; rw [getD_set_eq _ (by omega)]
        · rw [getD_set_ne _ (fun e => c1 e.symm), e2 j (by omega)])
    (fun n s _ => by rw [cutting_sums_L1, decide_eq_false (by omega)]; rfl) (List.replicate (c.length + 1) 0) ⟨by simp, fun j hj => by
      rw [show j = 0 by omega]; simp [pre, sumN, List.getD_eq_getElem?_getD]⟩
  rw [show ((0 : Nat) : Int) = 0 from rfl, Nat.sub_zero] at k
  rw [k.1]
  simp only [Option.bind_some]
  congr 1
  unfold sums
  refine ext_getD (by simp [k.2.1]) (fun j hj => ?_)
  rw [k.2.1] at hj
  rw [k.2.2 j (by omega), getD_range _ hj]
end Saw
end Go.SL

namespace Go.SL
namespace Saw

abbrev Ch := Cutting_choice
def noCh (v : Int) : Ch := ⟨⟨-1, -1⟩, v⟩
def isNo (c : Ch) : Bool := (c.piece.Size == -1) && (c.piece.At == -1)
def szAt (a : Line) (i : Nat) : Int := a.Sizes.getD i default
def gnAt (a : Line) (i : Nat) (p : Nat) : Int := (a.Gain.getD i default).getD p default
/-- Where the next piece may begin, behind a piece's end. -/
def nxtN (a : Line) (q : Nat) : Nat := (imin ((q : Int) + a.Kerf) a.Len).toNat
def endN (a : Line) (p i : Nat) : Nat := (p + szAt a i).toNat
def candV (a : Line) (best : Nat → Ch) (p i : Nat) : Int :=
  gnAt a i p + (if (endN a p i : Int) = a.Len then 0 else (pre a.Dust (nxtN a (endN a p i)) - pre a.Dust (endN a p i)) + (best (nxtN a (endN a p i))).value)
def startStep (a : Line) (best : Nat → Ch) (p i : Nat) (c : Ch) : Ch :=
  if (p : Int) + szAt a i > a.Len ∨ gnAt a i p < 0 then c
  else bif isNo c || decide (candV a best p i > c.value) then ⟨⟨(i : Int), (p : Int)⟩, candV a best p i⟩ else c
def startS (a : Line) (best : Nat → Ch) (p : Nat) : Ch := foldN (startStep a best p) 0 a.Sizes.length (noCh 0)
def bestStep (a : Line) (st : Nat → Ch) (p : Nat) (x : Nat) (c : Ch) : Ch :=
  bif !isNo (st x) && decide ((st x).value + (pre a.Chip (x - a.Kerf.toNat) - pre a.Chip p + pre a.Dust x - pre a.Dust (x - a.Kerf.toNat)) > c.value) then ⟨(st x).piece, (st x).value + (pre a.Chip (x - a.Kerf.toNat) - pre a.Chip p + pre a.Dust x - pre a.Dust (x - a.Kerf.toNat))⟩ else c
def placeN (a : Line) (p k : Nat) : Nat := p + a.Kerf.toNat + (k + 1) * a.Pitch.toNat
def best0 (a : Line) (st : Nat → Ch) (p : Nat) : Ch :=
  bif !isNo (st p) && decide ((st p).value > pre a.Chip a.Len.toNat - pre a.Chip p) then st p else noCh (pre a.Chip a.Len.toNat - pre a.Chip p)
def placesN (a : Line) (p : Nat) : Nat := ((a.Len.toNat - (p + a.Kerf.toNat)) / a.Pitch.toNat)
def bestS (a : Line) (st : Nat → Ch) (p : Nat) : Ch := foldN (fun k c => bestStep a st p (placeN a p k) c) 0 (placesN a p) (best0 a st p)
/-- The table after k places from the end: what is best from a place, and what is best if a piece begins there. -/
def tab (a : Line) : Nat → Nat → Ch × Ch
  | 0 => fun _ => (⟨⟨0, 0⟩, 0⟩, ⟨⟨0, 0⟩, 0⟩)
  | k + 1 => fun j =>
    if j = a.Len.toNat - k then
      (bestS a (fun x => if x = a.Len.toNat - k then startS a (fun y => (tab a k y).1) (a.Len.toNat - k) else (tab a k x).2) (a.Len.toNat - k), startS a (fun y => (tab a k y).1) (a.Len.toNat - k))
    else tab a k j
end Saw
end Go.SL

namespace Go.SL
namespace Saw

def BV (a : Line) (p : Nat) (v : Int) : Prop := -(2251799813685248 * (a.Len - p)) ≤ v ∧ v ≤ 2251799813685248 * (a.Len - p)
theorem sums_at {c : List Int} {k : Nat} (h : k ≤ c.length) : (sums c).getD k default = pre c k := by unfold sums; rw [getD_range _ (by omega)]
theorem sums_length (c : List Int) : (sums c).length = c.length + 1 := by unfold sums; simp
theorem pre_diff {c : List Int} (h : ∀ j, j < c.length → okN (c.getD j default)) {i : Nat} : ∀ {k : Nat}, i + k ≤ c.length → -(1125899906842624 * (k : Int)) ≤ pre c (i + k) - pre c i ∧ pre c (i + k) - pre c i ≤ 1125899906842624 * (k : Int)
  | 0, _ => by simp
  | k + 1, hk => by
    have a := pre_diff h (i := i) (k := k) (by omega)
    have b := h (i + k) (by omega)
    unfold okN at b
    rw [show i + (k + 1) = (i + k) + 1 from rfl, pre_succ]
    omega
theorem cand_b {a : Line} (h : VL a) {p i : Nat} (hi : i < a.Sizes.length) (hq : (p : Int) + szAt a i ≤ a.Len) {best : Nat → Ch} (hb : ∀ x, p < x → (x : Int) ≤ a.Len → BV a x (best x).value) : BV a p (candV a best p i) := by
  have s := h.sz i hi
  have g : okN (gnAt a i p) := h.gb i hi p (by have := h.gr i hi; unfold szAt at hq; omega)
  have kf := h.kerf
  have dl := h.dl
  unfold candV
  have e : (endN a p i : Int) = p + szAt a i := by unfold endN; unfold szAt at *; omega
  unfold okN at g
  by_cases c : (endN a p i : Int) = a.Len
  · rw [if_pos c]; unfold BV; unfold szAt at *; omega
  · rw [if_neg c]
    have m := imin_or ((endN a p i : Int) + a.Kerf) a.Len
    have en : (nxtN a (endN a p i) : Int) = imin ((endN a p i : Int) + a.Kerf) a.Len := by unfold nxtN; omega
    have bb := hb (nxtN a (endN a p i)) (by unfold szAt at *; omega) (by omega)
    have pd := pre_diff h.db (i := endN a p i) (k := nxtN a (endN a p i) - endN a p i) (by omega)
    rw [show endN a p i + (nxtN a (endN a p i) - endN a p i) = nxtN a (endN a p i) by omega] at pd
    unfold BV at *
    unfold szAt at *
    omega
end Saw
end Go.SL

namespace Go.SL
namespace Saw

theorem isNo_def (c : Ch) : ((c.piece.Size == -1) && ((c.piece.At == -1) && true)) = isNo c := by unfold isNo; rw [Bool.and_true]
theorem start_eq {a : Line} (h : VL a) {p : Nat} (hp : (p : Int) ≤ a.Len) {b4 : List Ch} (hl : (b4.length : Int) = a.Len + 1) (hb : ∀ x, p < x → (x : Int) ≤ a.Len → BV a x (b4.getD x default).value) :
    cutting_start a (p : Int) (sums a.Dust) b4 = some (startS a (fun x => b4.getD x default) p) := by
  have szl := h.szl
  have kf := h.kerf
  have ln := h.len
  have dl := h.dl
  have gl := h.gl
  unfold cutting_start
  have k := loop_foldN a.Sizes.length (fun n (c : Ch) i => cutting_start_L1 a (p : Int) (sums a.Dust) b4 n i c) (startStep a (fun x => b4.getD x default) p) (fun c => c) (fun _ _ => True) 0 (by omega) (by omega)
    (fun n i c hi _ => ⟨by
      have s := h.sz i hi
      have gr := h.gr i hi
      unfold startStep szAt
      rw [cutting_start_L1, decide_eq_true (by omega), inb_t (by omega) (by omega)]
      simp only [cond_true, Int.toNat_natCast, cutting_start_k2, cutting_start_k3, cutting_start_k4, cutting_start_k5, inc_eq (show i < 4611686018427387904 by omega), isNo_def]
      simp only [w64_id (n := (p : Int) + a.Sizes.getD i default) (by omega) (by omega)]
      by_cases c1 : (p : Int) + a.Sizes.getD i default > a.Len
      · rw [decide_eq_true c1, if_pos (.inl c1)]; rfl
      rw [decide_eq_false c1, inb_t (show (0 : Int) ≤ (i : Int) by omega) (show (i : Int) < ((a.Gain.length : Nat) : Int) by omega), inb_t (show (0 : Int) ≤ (p : Int) by omega) (show (p : Int) < (((a.Gain.getD i default).length : Nat) : Int) by omega)]
      simp only [cond_true, cond_false]
      by_cases c2 : (a.Gain.getD i default).getD p default < 0
      · rw [decide_eq_true c2, if_pos (.inr c2)]; rfl
      rw [decide_eq_false c2, if_neg (by unfold gnAt; omega)]
      simp only [cond_false]
      have cb := cand_b h hi (show (p : Int) + szAt a i ≤ a.Len by unfold szAt; omega) hb
      have gb := h.gb i hi p (by omega)
      unfold okN at gb
      have e : (endN a p i : Int) = p + a.Sizes.getD i default := by unfold endN szAt; omega
      unfold cutting_behind
      by_cases c3 : (p : Int) + a.Sizes.getD i default = a.Len
      · have ev : candV a (fun x => b4.getD x default) p i = (a.Gain.getD i default).getD p default := by
          unfold candV gnAt
          rw [if_pos (by omega)]; omega
        rw [ev, show ((p : Int) + a.Sizes.getD i default == a.Len) = true by rw [beq_iff_eq]; exact c3]
        simp only [cond_true, Option.bind_some]
        rw [show decide ((-1 : Int) ≥ 0) = false from rfl]
        simp only [cond_false]
        cases isNo c <;> cases decide ((a.Gain.getD i default).getD p default > c.value) <;> rfl
      · have m := imin_or ((p : Int) + a.Sizes.getD i default + a.Kerf) a.Len
        have en : imin ((p : Int) + a.Sizes.getD i default + a.Kerf) a.Len = (nxtN a (endN a p i) : Int) := by unfold nxtN; rw [e]; omega
        rw [show ((p : Int) + a.Sizes.getD i default == a.Len) = false by rw [beq_eq_false_iff_ne]; exact c3]
        simp only [cond_false, Option.bind_some, w64_id (n := (p : Int) + a.Sizes.getD i default + a.Kerf) (by omega) (by omega), en]
        rw [decide_eq_true (show (nxtN a (endN a p i) : Int) ≥ 0 by omega), ← e]
        simp only [sums_length, inb_t (show (0 : Int) ≤ (nxtN a (endN a p i) : Int) by omega) (show (nxtN a (endN a p i) : Int) < ((a.Dust.length + 1 : Nat) : Int) by omega), inb_t (show (0 : Int) ≤ (endN a p i : Int) by omega) (show (endN a p i : Int) < ((a.Dust.length + 1 : Nat) : Int) by omega), inb_t (show (0 : Int) ≤ (nxtN a (endN a p i) : Int) by omega) (show (nxtN a (endN a p i) : Int) < ((b4.length : Nat) : Int) by omega), cond_true, Int.toNat_natCast, sums_at (c := a.Dust) (show nxtN a (endN a p i) ≤ a.Dust.length by omega), sums_at (c := a.Dust) (show endN a p i ≤ a.Dust.length by omega)]
        have bb := hb (nxtN a (endN a p i)) (by omega) (by omega)
        have pd := pre_diff h.db (i := endN a p i) (k := nxtN a (endN a p i) - endN a p i) (by omega)
        rw [show endN a p i + (nxtN a (endN a p i) - endN a p i) = nxtN a (endN a p i) by omega] at pd
        have ev : candV a (fun x => b4.getD x default) p i = (a.Gain.getD i default).getD p default + (pre a.Dust (nxtN a (endN a p i)) - pre a.Dust (endN a p i) + (b4.getD (nxtN a (endN a p i)) default).value) := by
          unfold candV gnAt
          rw [if_neg (by omega)]
        unfold BV at bb cb
        simp only [w64_id (n := pre a.Dust (nxtN a (endN a p i)) - pre a.Dust (endN a p i)) (by omega) (by omega), w64_id (n := pre a.Dust (nxtN a (endN a p i)) - pre a.Dust (endN a p i) + (b4.getD (nxtN a (endN a p i)) default).value) (by omega) (by omega)]
        rw [ev] at cb
        simp only [w64_id (n := (a.Gain.getD i default).getD p default + (pre a.Dust (nxtN a (endN a p i)) - pre a.Dust (endN a p i) + (b4.getD (nxtN a (endN a p i)) default).value)) (by omega) (by omega), ev]
        cases isNo c <;> cases decide ((a.Gain.getD i default).getD p default + (pre a.Dust (nxtN a (endN a p i)) - pre a.Dust (endN a p i) + (b4.getD (nxtN a (endN a p i)) default).value) > c.value) <;> rfl, trivial⟩)
    (fun n c _ => by rw [cutting_start_L1, decide_eq_false (by omega)]; rfl) (noCh 0) trivial
  rw [show ((0 : Nat) : Int) = 0 from rfl, Nat.sub_zero] at k
  exact congrArg (fun o => Option.bind o some) k.1
end Saw
end Go.SL

namespace Go.SL
namespace Saw

theorem places_lt {a : Line} (h : VL a) {p k : Nat} : k < placesN a p ↔ (placeN a p k : Int) ≤ a.Len := by
  have hp := h.pitch
  have hl := h.len
  have hk := h.kerf
  unfold placesN placeN
  have e : k < (a.Len.toNat - (p + a.Kerf.toNat)) / a.Pitch.toNat ↔ (k + 1) * a.Pitch.toNat ≤ a.Len.toNat - (p + a.Kerf.toNat) := by
    rw [← Nat.le_div_iff_mul_le (by omega)]; omega
  rw [e]
  have : 1 ≤ (k + 1) * a.Pitch.toNat := Nat.mul_pos (by omega) (by omega)
  omega
theorem startStep_BV {a : Line} (h : VL a) {p i : Nat} (hi : i < a.Sizes.length) {best : Nat → Ch} (hb : ∀ x, p < x → (x : Int) ≤ a.Len → BV a x (best x).value) {c : Ch} (hc : BV a p c.value) : BV a p (startStep a best p i c).value := by
  unfold startStep
  split
  · exact hc
  · cases isNo c || decide (candV a best p i > c.value) with
    | true => exact cand_b h hi (by omega) hb
    | false => exact hc
theorem startS_BV {a : Line} (h : VL a) {p : Nat} (hp : (p : Int) ≤ a.Len) {best : Nat → Ch} (hb : ∀ x, p < x → (x : Int) ≤ a.Len → BV a x (best x).value) : BV a p (startS a best p).value := by
  unfold startS
  exact foldN_inv (P := fun (c : Ch) => BV a p c.value) (by unfold noCh BV; simp only; omega) (fun i c _ hi hc => startStep_BV h (by omega) hb hc)
end Saw
end Go.SL

namespace Go.SL
namespace Saw

theorem bv_sum {a : Line} (h : VL a) {p x : Nat} (hx : (x : Int) ≤ a.Len) (hpx : (p : Int) + a.Kerf ≤ x) {v : Int} (hv : BV a x v) :
    BV a p (v + (pre a.Chip (x - a.Kerf.toNat) - pre a.Chip p + pre a.Dust x - pre a.Dust (x - a.Kerf.toNat))) := by
  have cl := h.cl
  have dl := h.dl
  have kf := h.kerf
  have p1 := pre_diff h.cb (i := p) (k := x - a.Kerf.toNat - p) (by omega)
  have p2 := pre_diff h.db (i := x - a.Kerf.toNat) (k := a.Kerf.toNat) (by omega)
  rw [show p + (x - a.Kerf.toNat - p) = x - a.Kerf.toNat by omega] at p1
  rw [show x - a.Kerf.toNat + a.Kerf.toNat = x by omega] at p2
  unfold BV at *
  omega
theorem choices_L4_eq {a : Line} (h : VL a) {p : Nat} (hp : (p : Int) ≤ a.Len) {l8 : List Ch} (hl : (l8.length : Int) = a.Len + 1) (v11 : Ch) (hb : ∀ x, p < x → (x : Int) ≤ a.Len → BV a x ((l8.set p v11).getD x default).value) (c0 : Ch) :
    cutting_choices_L4 a (sums a.Chip) (sums a.Dust) l8 (p : Int) v11 FUEL ((placeN a p 0 : Nat) : Int) c0 = some (foldN (fun k c => bestStep a (fun x => (l8.set p v11).getD x default) p (placeN a p k) c) 0 (placesN a p) c0) := by
  have ln := h.len
  have kf := h.kerf
  have pt := h.pitch
  have cl := h.cl
  have dl := h.dl
  have hN : placesN a p ≤ 1000000000 := by
    unfold placesN
    have := Nat.div_le_self (a.Len.toNat - (p + a.Kerf.toNat)) a.Pitch.toNat
    omega
  refine (loop_foldI (placesN a p) (fun n (c : Ch) (x : Int) => cutting_choices_L4 a (sums a.Chip) (sums a.Dust) l8 (p : Int) v11 n x c) (fun k => ((placeN a p k : Nat) : Int)) (fun k c => bestStep a (fun x => (l8.set p v11).getD x default) p (placeN a p k) c) (fun c => c) (fun _ _ => True) hN (fun n k c hk _ => ⟨?_, trivial⟩) (fun n c _ => ?_) c0 trivial).1
  · have hx := (places_lt h).1 hk
    have nx : ((placeN a p k : Nat) : Int) + a.Pitch = ((placeN a p (k + 1) : Nat) : Int) := by
      unfold placeN
      rw [show (k + 1 + 1) * a.Pitch.toNat = (k + 1) * a.Pitch.toNat + a.Pitch.toNat from Nat.succ_mul _ _]
      omega
    have lo : p + a.Kerf.toNat + 1 ≤ placeN a p k := by
      unfold placeN
      have : 1 ≤ (k + 1) * a.Pitch.toNat := Nat.mul_pos (by omega) (by omega)
      omega
    generalize placeN a p k = x at *
    have xk : ((x : Int) - a.Kerf) = ((x - a.Kerf.toNat : Nat) : Int) := by omega
    have bx := hb x (by omega) hx
    have bs := bv_sum h hx (p := p) (by omega) bx
    have b1 := pre_b h.cb (k := x - a.Kerf.toNat) (by omega)
    have b2 := pre_b h.cb (k := p) (by omega)
    have b3 := pre_b h.db (k := x) (by omega)
    have b4 := pre_b h.db (k := x - a.Kerf.toNat) (by omega)
    have p1 := pre_diff h.cb (i := p) (k := x - a.Kerf.toNat - p) (by omega)
    rw [show p + (x - a.Kerf.toNat - p) = x - a.Kerf.toNat by omega] at p1
    have p2 := pre_diff h.db (i := x - a.Kerf.toNat) (k := a.Kerf.toNat) (by omega)
    rw [show x - a.Kerf.toNat + a.Kerf.toNat = x by omega] at p2
    unfold BV at bx bs
    rw [cutting_choices_L4]
    simp only [show w64 ((x : Int) - a.Kerf) = ((x - a.Kerf.toNat : Nat) : Int) by rw [w64_id (by omega) (by omega), xk], Int.toNat_natCast, sums_length, inb_t (show (0 : Int) ≤ (x : Int) by omega) (show (x : Int) < ((l8.length : Nat) : Int) by omega), inb_t (show (0 : Int) ≤ ((x - a.Kerf.toNat : Nat) : Int) by omega) (show ((x - a.Kerf.toNat : Nat) : Int) < ((a.Chip.length + 1 : Nat) : Int) by omega), inb_t (show (0 : Int) ≤ (p : Int) by omega) (show (p : Int) < ((a.Chip.length + 1 : Nat) : Int) by omega), inb_t (show (0 : Int) ≤ (x : Int) by omega) (show (x : Int) < ((a.Dust.length + 1 : Nat) : Int) by omega), inb_t (show (0 : Int) ≤ ((x - a.Kerf.toNat : Nat) : Int) by omega) (show ((x - a.Kerf.toNat : Nat) : Int) < ((a.Dust.length + 1 : Nat) : Int) by omega), cond_true, sums_at (c := a.Chip) (show x - a.Kerf.toNat ≤ a.Chip.length by omega), sums_at (c := a.Chip) (show p ≤ a.Chip.length by omega), sums_at (c := a.Dust) (show x ≤ a.Dust.length by omega), sums_at (c := a.Dust) (show x - a.Kerf.toNat ≤ a.Dust.length by omega), isNo_def, cutting_choices_k5, cutting_choices_k6]
    rw [decide_eq_true hx]
    simp only [cond_true, show w64 ((x : Int) + a.Pitch) = ((placeN a p (k + 1) : Nat) : Int) by rw [w64_id (by omega) (by omega), nx], w64_id (n := pre a.Chip (x - a.Kerf.toNat) - pre a.Chip p) (by omega) (by omega), w64_id (n := pre a.Chip (x - a.Kerf.toNat) - pre a.Chip p + pre a.Dust x) (by omega) (by omega), w64_id (n := pre a.Chip (x - a.Kerf.toNat) - pre a.Chip p + pre a.Dust x - pre a.Dust (x - a.Kerf.toNat)) (by omega) (by omega), w64_id (n := ((l8.set p v11).getD x default).value + (pre a.Chip (x - a.Kerf.toNat) - pre a.Chip p + pre a.Dust x - pre a.Dust (x - a.Kerf.toNat))) (by omega) (by omega), bestStep]
    cases isNo ((l8.set p v11).getD x default) <;> cases decide (((l8.set p v11).getD x default).value + (pre a.Chip (x - a.Kerf.toNat) - pre a.Chip p + pre a.Dust x - pre a.Dust (x - a.Kerf.toNat)) > c.value) <;> rfl
  · have hx : ¬ ((placeN a p (placesN a p) : Nat) : Int) ≤ a.Len := fun q => by have := (places_lt h).2 q; omega
    rw [cutting_choices_L4, decide_eq_false hx]; rfl
end Saw
end Go.SL

namespace Go.SL
namespace Saw

theorem chip_rest {a : Line} (h : VL a) {p : Nat} (hp : (p : Int) ≤ a.Len) : BV a p (pre a.Chip a.Len.toNat - pre a.Chip p) := by
  have cl := h.cl
  have ln := h.len
  have := pre_diff h.cb (i := p) (k := a.Len.toNat - p) (by omega)
  rw [show p + (a.Len.toNat - p) = a.Len.toNat by omega] at this
  unfold BV; omega
theorem best0_BV {a : Line} (h : VL a) {p : Nat} (hp : (p : Int) ≤ a.Len) {st : Nat → Ch} (hs : BV a p (st p).value) : BV a p (best0 a st p).value := by
  unfold best0
  cases !isNo (st p) && decide ((st p).value > pre a.Chip a.Len.toNat - pre a.Chip p) with
  | true => exact hs
  | false => exact chip_rest h hp
theorem place_lo {a : Line} (h : VL a) (p k : Nat) : p + a.Kerf.toNat + 1 ≤ placeN a p k := by
  unfold placeN
  have := h.pitch
  have : 1 ≤ (k + 1) * a.Pitch.toNat := Nat.mul_pos (by omega) (by omega)
  omega
theorem bestS_BV {a : Line} (h : VL a) {p : Nat} (hp : (p : Int) ≤ a.Len) {st : Nat → Ch} (hs : ∀ x, p ≤ x → (x : Int) ≤ a.Len → BV a x (st x).value) : BV a p (bestS a st p).value := by
  unfold bestS
  have kf := h.kerf
  refine foldN_inv (P := fun (c : Ch) => BV a p c.value) (best0_BV h hp (hs p (Nat.le_refl _) hp)) (fun k c _ hk hc => ?_)
  have hx := (places_lt h).1 (show k < placesN a p by omega)
  have lo := place_lo h p k
  unfold bestStep
  cases !isNo (st (placeN a p k)) && decide ((st (placeN a p k)).value + (pre a.Chip (placeN a p k - a.Kerf.toNat) - pre a.Chip p + pre a.Dust (placeN a p k) - pre a.Dust (placeN a p k - a.Kerf.toNat)) > c.value) with
  | false => exact hc
  | true => exact bv_sum h hx (by omega) (hs _ (by omega) hx)
/-- How the lists stand beside the table. -/
structure TI (a : Line) (k : Nat) (s : List Ch × List Ch) : Prop where
  l1 : (s.1.length : Int) = a.Len + 1
  l2 : (s.2.length : Int) = a.Len + 1
  e1 : ∀ j, s.1.getD j default = (tab a k j).1
  e2 : ∀ j, s.2.getD j default = (tab a k j).2
  b1 : ∀ j, a.Len.toNat < j + k → (j : Int) ≤ a.Len → BV a j (tab a k j).1.value ∧ BV a j (tab a k j).2.value
def tabStep (a : Line) (k : Nat) (s : List Ch × List Ch) : List Ch × List Ch :=
  (s.1.set (a.Len.toNat - k) (bestS a (fun x => (s.2.set (a.Len.toNat - k) (startS a (fun y => s.1.getD y default) (a.Len.toNat - k))).getD x default) (a.Len.toNat - k)), s.2.set (a.Len.toNat - k) (startS a (fun y => s.1.getD y default) (a.Len.toNat - k)))
theorem getD_set_all {α : Type} [Inhabited α] {l : List α} {x : Nat} (v : α) (h : x < l.length) (j : Nat) : (l.set x v).getD j default = if j = x then v else l.getD j default := by
  by_cases c : j = x
  · subst c; rw [if_pos rfl, getD_set_eq _ h]
  · rw [if_neg c, getD_set_ne _ (fun e => c e.symm)]
theorem tabStep_TI {a : Line} (h : VL a) {k : Nat} (hk : (k : Int) ≤ a.Len) {s : List Ch × List Ch} (t : TI a k s) : TI a (k + 1) (tabStep a k s) := by
  have ln := h.len
  have f1 : (fun y => s.1.getD y default) = fun y => (tab a k y).1 := funext t.e1
  have l1 := t.l1
  have l2 := t.l2
  have f2 : (fun x => (s.2.set (a.Len.toNat - k) (startS a (fun y => (tab a k y).1) (a.Len.toNat - k))).getD x default) = fun x => if x = a.Len.toNat - k then startS a (fun y => (tab a k y).1) (a.Len.toNat - k) else (tab a k x).2 := funext fun x => by
    rw [getD_set_all _ (by omega), t.e2]
  have sb : BV a (a.Len.toNat - k) (startS a (fun y => (tab a k y).1) (a.Len.toNat - k)).value := startS_BV h (by omega) (fun x h1 h2 => (t.b1 x (by omega) h2).1)
  have bb : BV a (a.Len.toNat - k) (bestS a (fun x => if x = a.Len.toNat - k then startS a (fun y => (tab a k y).1) (a.Len.toNat - k) else (tab a k x).2) (a.Len.toNat - k)).value := bestS_BV h (by omega) (fun x h1 h2 => by
    by_cases c : x = a.Len.toNat - k
    · simp only [if_pos c]; rw [c]; exact sb
    · simp only [if_neg c]; exact (t.b1 x (by omega) h2).2)
  unfold tabStep
  rw [f1, f2]
  refine ⟨by simpa using l1, by simpa using l2, fun j => ?_, fun j => ?_, fun j h1 h2 => ?_⟩
  · simp only
    rw [getD_set_all _ (by omega)]
    simp only [tab]
    by_cases c : j = a.Len.toNat - k
    · rw [if_pos c, if_pos c]
    · rw [if_neg c, if_neg c, t.e1]
  · simp only
    rw [getD_set_all _ (by omega)]
    simp only [tab]
    by_cases c : j = a.Len.toNat - k
    · rw [if_pos c, if_pos c]
    · rw [if_neg c, if_neg c, t.e2]
  · simp only [tab]
    by_cases c : j = a.Len.toNat - k
    · rw [if_pos c, c]; exact ⟨bb, sb⟩
    · rw [if_neg c]; exact t.b1 j (by omega) h2
end Saw
end Go.SL
