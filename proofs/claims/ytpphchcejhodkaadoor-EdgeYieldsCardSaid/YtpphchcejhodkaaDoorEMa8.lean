/- Edge's plain mathematics, part 30: the laws EdgeMore and EdgeMoves. -/
import Derived.Test.YtpphchcejhodkaaDoorEMa6
import Derived.Test.YtpphchcejhodkaaDoorEMa7
set_option linter.unusedVariables false
set_option linter.unusedSimpArgs false
namespace Go.SL
namespace Saw
theorem qOA {l : List qD} {ds : List Defect} {ps : List Product} {r : Rect} {w : Saw} {t : Rates} (h : (UX l ds ps r w t).2.2 = 0) : VE l ds ps r w t ∧ (UX l ds ps r w t).2.1 = (bst (lineS l ds ps r w t) 0).value := by
 unfold UX at h ⊢
 by_cases c : chkE l ds ps r w t = 0
 ·rw [if_pos c] at h ⊢
  refine ⟨qAC.1 c, ?_⟩
  unfold qGG at h ⊢
  by_cases c2 : (rowN 2 (lineS l ds ps r w t).Kerf r.X (jL ps r (lineS l ds ps r w t))).length ≤ 127
  ·rw [if_pos c2]
  ·rw [if_neg c2] at h; exact absurd h (by decide)
 ·rw [if_neg c] at h; exact absurd h c
theorem qNK (a : qP) : TB a = some (UX a.Solid a.Defects a.Products a.Strip a.Saw a.Rates) := by
 unfold TB
 rw [qLm]; rfl
/-! ### More products -/
/-! ### A log moved -/
def tot (c : List Int) (l : List Span) : Int := (l.map (fun s => pre c s.B.toNat - pre c s.A.toNat)).sum
def okSp (N : Int) (s : Span) : Prop := 0 ≤ s.A ∧ s.A ≤ s.B ∧ s.B ≤ N
/-- A piece that may be cut next. -/
structure Leg (a : Line) (e : Int) (x : Piece) (i q : Nat) : Prop where
 eq : x = ⟨(i : Int), (q : Int)⟩
 hi : i < a.Sizes.length
 hq : ¬ ((q : Int) + szAt a i > a.Len)
 e0 : 0 ≤ e
 wh : (q : Int) = e ∨ ∃ k, k < YA a e.toNat ∧ q = placeN a e.toNat k
 hg : ¬ gnAt a i q < 0
def gnOf (a : Line) (p : List Piece) (j : Nat) : Int := gnAt a (p.getD j default).Size.toNat (p.getD j default).At.toNat
/-- What is done when i pieces are cut: dust, chips, edge. -/
structure CI (a : Line) (p : List Piece) (i : Nat) (s : List Span × List Span × Int) : Prop where
 l1 : s.1.length ≤ 2 * i
 l2 : s.2.1.length ≤ i
 o1 : ∀ x ∈ s.1, okSp a.Len x
 o2 : ∀ x ∈ s.2.1, okSp a.Len x
 ed : s.2.2 = -1 ∨ (0 ≤ s.2.2 ∧ s.2.2 ≤ a.Len)
 pc : ∀ j, j < i → ∃ k q : Nat, p.getD j default = ⟨(k : Int), (q : Int)⟩ ∧ k < a.Sizes.length ∧ ¬ ((q : Int) + szAt a k > a.Len)
 up : tot a.Dust s.1 + tot a.Chip s.2.1 + sumN i (gnOf a p) + (if s.2.2 < 0 then 0 else (bst a s.2.2.toNat).value) ≤ (bst a 0).value
 lo : -(1125899906842624 * (if s.2.2 < 0 then a.Len else s.2.2)) ≤ tot a.Dust s.1 + tot a.Chip s.2.1 + sumN i (gnOf a p)
theorem qLe (s : qL) {A m B : Int} (y : Span) (h1 : A ≤ m) (h2 : m ≤ B) : zD s ⟨A, m⟩ y + zD s ⟨m, B⟩ y = zD s ⟨A, B⟩ y := by
 unfold zD
 rw [← qFj]
 refine OB (fun r _ _ => ?_)
 rw [← qKQ (row s r) h1 h2, Int.add_mul]
theorem qJ9 (l : List qD) {A m B : Int} (y z : Span) (h1 : A ≤ m) (h2 : m ≤ B) : volS l ⟨A, m⟩ y z + volS l ⟨m, B⟩ y z = volS l ⟨A, B⟩ y z := by
 unfold volS
 rw [← qCk]
 refine JI (fun i _ => ?_)
 rw [← qLe _ y h1 h2, Int.mul_add]
theorem vol_nil (l : List qD) (A : Int) (y z : Span) : volS l ⟨A, A⟩ y z = 0 := by
 have := qJ9 l (A := A) (m := A) (B := A) y z (Int.le_refl _) (Int.le_refl _); omega
theorem qJH (l : List qD) (r : Rect) : ∀ k : Nat, sumN k (sliv l r) = volS l ⟨r.X.A, r.X.A + k⟩ r.Y ⟨0, solLen l⟩
 | 0 => by rw [sumN, show r.X.A + ((0 : Nat) : Int) = r.X.A by omega, vol_nil]
 | k + 1 => by
  rw [sumN, qJH l r k]
  unfold sliv LN
  simp only
  rw [show r.X.A + ((k + 1 : Nat) : Int) = r.X.A + ((k : Int) + 1) by omega]
  exact qJ9 l r.Y _ (by omega) (by omega)
theorem bst0_BV {a : Line} (h : VL a) : -2251799813685248 * 2000 ≤ (bst a 0).value ∧ (bst a 0).value ≤ 2251799813685248 * 2000 := by
 have ln := h.len
 obtain ⟨s, e, t⟩ := AM h (a.Len.toNat + 1) 0 FUEL (List.replicate (a.Len.toNat + 1) ⟨⟨0, 0⟩, 0⟩, List.replicate (a.Len.toNat + 1) ⟨⟨0, 0⟩, 0⟩) (by omega) (by rw [FUEL_eq]; omega) (TI0 h)
 have := (t.b1 0 (by omega) (by omega)).1
 unfold BV at this
 unfold bst
 omega
end Saw
end Go.SL

namespace Go.SL.Saw
variable {l : List qD} {ds : List Defect} {ps : List Product} {r : Rect} {w : Saw} {t : Rates}
/-- What a leaf is worth. -/
def lvV (s : List qD) (d : List Defect) (p : List Product) (w : Saw) (t : Rates) (x : Leaf) : Int :=
 if x.Product = -1 then t.Chip * wholeR s x.Rect
 else bif (bestR s d (p.getD x.Product.toNat default) x.Rect w.Step t.Fine).2.1 then gainS s d (p.getD x.Product.toNat default) x.Rect w t else t.Chip * wholeR s x.Rect
theorem qL7 (s : List qD) (d : List Defect) (p : List Product) (w : Saw) (t : Rates) : ∀ (lv : List Leaf) (i : Nat),
  sumL (lvV s d p w t) lv = sumL (fun c : Yield_Cut => 1000000 * c.Worth) (bdsFrom s d p w.Step t.Fine i lv) + t.Dust * sumL (trmV s w.Trim) (bdsFrom s d p w.Step t.Fine i lv)
   + t.Chip * (sumL (fun x => wholeR s x.Rect) lv - sumL (brdV s) (bdsFrom s d p w.Step t.Fine i lv) - sumL (trmV s w.Trim) (bdsFrom s d p w.Step t.Fine i lv))
 | [], i => by simp [sumL, bdsFrom]
 | x :: lv, i => by
  rw [WM, WM, qL7 s d p w t lv (i + 1)]
  show _ = sumL _ (bdOf s d p w.Step t.Fine i x ++ bdsFrom s d p w.Step t.Fine (i + 1) lv) + t.Dust * sumL _ (bdOf s d p w.Step t.Fine i x ++ bdsFrom s d p w.Step t.Fine (i + 1) lv) + t.Chip * (_ - sumL _ (bdOf s d p w.Step t.Fine i x ++ bdsFrom s d p w.Step t.Fine (i + 1) lv) - sumL _ (bdOf s d p w.Step t.Fine i x ++ bdsFrom s d p w.Step t.Fine (i + 1) lv))
  rw [FN, FN, FN]
  have e : lvV s d p w t x = sumL (fun c : Yield_Cut => 1000000 * c.Worth) (bdOf s d p w.Step t.Fine i x) + t.Dust * sumL (trmV s w.Trim) (bdOf s d p w.Step t.Fine i x) + t.Chip * (wholeR s x.Rect - sumL (brdV s) (bdOf s d p w.Step t.Fine i x) - sumL (trmV s w.Trim) (bdOf s d p w.Step t.Fine i x)) := by
   unfold lvV bdOf
   by_cases c : x.Product = -1
   ·rw [if_pos c, if_pos c]; simp [sumL]
   ·rw [if_neg c, if_neg c]
    unfold gainS
    cases hb : (bestR s d (p.getD x.Product.toNat default) x.Rect w.Step t.Fine).2.1 with
    | false => simp [sumL]
    | true =>
     simp only [cond_true, WM, qOR, Int.add_zero]
     rfl
  rw [e]
  generalize sumL (fun c : Yield_Cut => 1000000 * c.Worth) (bdOf s d p w.Step t.Fine i x) = a1
  generalize sumL (trmV s w.Trim) (bdOf s d p w.Step t.Fine i x) = a2
  generalize sumL (brdV s) (bdOf s d p w.Step t.Fine i x) = a3
  generalize sumL (fun c : Yield_Cut => 1000000 * c.Worth) (bdsFrom s d p w.Step t.Fine (i + 1) lv) = b1
  generalize sumL (trmV s w.Trim) (bdsFrom s d p w.Step t.Fine (i + 1) lv) = b2
  generalize sumL (brdV s) (bdsFrom s d p w.Step t.Fine (i + 1) lv) = b3
  simp only [Int.mul_add, Int.mul_sub]
  omega
/-- The value of a yield. -/
theorem qNz {pt : qF} (h : VY l ds ps pt w t) : (qJs l ds ps pt w t).Value = sumL (lvV l ds ps w t) (lvP pt w.Kerf) + sumL (fun c => t.Dust * wholeR l c) (ctP pt w.Kerf) + t.Chip * (volT l - wholeR l pt.Frame) := by
 have hs := h.parts.sum (wholeR l) (qIb l)
 have e := qL7 l ds ps w t (lvP pt w.Kerf) 0
 rw [e, show sumL (fun c => t.Dust * wholeR l c) (ctP pt w.Kerf) = t.Dust * sumL (wholeR l) (ctP pt w.Kerf) from qJB _ _ _]
 show yW _ _ _ _ _ _ + (t.Chip * yC _ _ _ _ _ _ + t.Dust * yD _ _ _ _ _ _) = _
 unfold yW yC yB yD qB5 bds
 rw [← hs]
 simp only [Int.mul_add, Int.mul_sub]
 omega
/-! ### The sizes -/
structure SzD (l : List Product) (z : Int) (x : Nat) (s : List Int × List Int) : Prop where
 len : s.1.length = s.2.length
 le : s.1.length ≤ x
 at_ : ∀ j, j < s.1.length → ∃ i : Nat, i < x ∧ s.2.getD j default = (i : Int) ∧ (((qS (l.getD i default)).1 = z ∧ s.1.getD j default = (qS (l.getD i default)).2) ∨ ((qS (l.getD i default)).2 = z ∧ s.1.getD j default = (qS (l.getD i default)).1))
theorem qJ5 {l : List Product} {z : Int} {x : Nat} {s : List Int × List Int} (h : SzD l z x s) {v : Int} (hv : ((qS (l.getD x default)).1 = z ∧ v = (qS (l.getD x default)).2) ∨ ((qS (l.getD x default)).2 = z ∧ v = (qS (l.getD x default)).1)) : SzD l z (x + 1) (s.1 ++ [v], s.2 ++ [(x : Int)]) := by
 have h1 := h.len
 have h2 := h.le
 refine ⟨by simp [h1], by simp; omega, fun j hj => ?_⟩
 simp only [List.length_append, List.length_cons, List.length_nil] at hj
 simp only
 rw [qA2 (by omega), qA2 (by omega)]
 by_cases c : j < s.1.length
 ·rw [if_pos c, if_pos (by omega)]
  obtain ⟨i, a, b, d⟩ := h.at_ j c
  exact ⟨i, by omega, b, d⟩
 ·rw [if_neg c, if_neg (by omega)]
  exact ⟨x, by omega, rfl, hv⟩
theorem qL2 {l : List Product} (hc : zY l = 0) (z : Int) : SzD l z l.length (sizes l z) := by
 unfold sizes
 rw [if_neg (by simpa using hc)]
 have : ∀ k, SzD l z k (foldN (sizStep l z) 0 k ([], [])) := by
  intro k
  induction k with
  | zero => exact ⟨rfl, Nat.le_refl _, fun j hj => by simp [foldN] at hj⟩
  | succ k ih =>
   rw [JH, Nat.zero_add]
   generalize foldN (sizStep l z) 0 k ([], []) = s at *
   unfold sizStep
   by_cases c1 : (qS (l.getD k default)).1 = z
   ·have e1 : ((qS (l.getD k default)).1 == z) = true := by simpa using c1
    rw [e1]; exact qJ5 ih (.inl ⟨c1, rfl⟩)
   ·have e1 : ((qS (l.getD k default)).1 == z) = false := by simpa using c1
    rw [e1, cond_false]
    by_cases c2 : (qS (l.getD k default)).2 = z
    ·have e2 : ((qS (l.getD k default)).2 == z) = true := by simpa using c2
     rw [e2]; exact qJ5 ih (.inr ⟨c2, rfl⟩)
    ·have e2 : ((qS (l.getD k default)).2 == z) = false := by simpa using c2
     rw [e2, cond_false]
     exact ⟨ih.len, by have := ih.le; omega, fun j hj => by obtain ⟨i, a, b⟩ := ih.at_ j hj; exact ⟨i, by omega, b⟩⟩
 exact this _
/-! ### The walk -/
/-- The part of a piece. -/
def pqOf (ps : List Product) (z : Int) (a : Line) (A : Int) (x : Piece) : Pq := (⟨A + x.At, A + (x.At + a.Sizes.getD x.Size.toNat default)⟩, .leaf ⟨1, (sizes ps z).2.getD x.Size.toNat default⟩)
theorem pq_pt (ps : List Product) (z : Int) (a : Line) (A : Int) (L : List Piece) : (L.map (pqOf ps z a A)).map ptP = L.map (ptOf a A (bdN ps z)) := by
 rw [List.map_map]; rfl
/-- What a best choice that is a piece is worth. -/
theorem bst_val {a : Line} (h : VL a) {p : Nat} (hp : (p : Int) ≤ a.Len) (hn : isNo (bst a p) = false) :
  ∃ i q : Nat, (bst a p).piece = ⟨(i : Int), (q : Int)⟩ ∧ i < a.Sizes.length ∧ ¬ ((q : Int) + szAt a i > a.Len) ∧ ¬ gnAt a i q < 0 ∧ (q = p ∨ p + a.Kerf.toNat + 1 ≤ q) ∧ (bst a p).value = (if q = p then 0 else restV a p q) + candV a (bst a) q i := by
 rw [qJt h hp] at hn ⊢
 have st : ∀ q : Nat, (q : Int) ≤ a.Len → isNo (stt a q) = false → ∃ i : Nat, (stt a q).piece = ⟨(i : Int), (q : Int)⟩ ∧ i < a.Sizes.length ∧ ¬ ((q : Int) + szAt a i > a.Len) ∧ ¬ gnAt a i q < 0 ∧ (stt a q).value = candV a (bst a) q i := fun q hq hn => by
  rw [qM6 h hq] at hn ⊢
  rcases startS_is a (bst a) q with e | ⟨i, h1, h2, h3, e⟩
  ·rw [e] at hn; cases hn
  ·exact ⟨i, by rw [e], h1, h2, h3, by rw [e]⟩
 rcases bestS_is a (stt a) p with e | ⟨h1, e⟩ | ⟨k, hk, h1, e⟩
 ·rw [e] at hn; cases hn
 ·rw [e]
  obtain ⟨i, a1, a2, a3, a4, a5⟩ := st p hp h1
  exact ⟨i, p, a1, a2, a3, a4, .inl rfl, by rw [if_pos rfl, a5, Int.zero_add]⟩
 ·rw [e]
  obtain ⟨i, a1, a2, a3, a4, a5⟩ := st _ ((LJ h).1 hk) h1
  have hlo := HO h p k
  refine ⟨i, _, a1, a2, a3, a4, .inr hlo, ?_⟩
  rw [if_neg (by omega)]
  show (stt a (placeN a p k)).value + restV a p (placeN a p k) = _
  rw [a5]; omega
theorem bst_no {a : Line} (h : VL a) {p : Nat} (hp : (p : Int) ≤ a.Len) (hn : isNo (bst a p) = true) : (bst a p).value = pre a.Chip a.Len.toNat - pre a.Chip p := by
 rw [qJt h hp] at hn ⊢
 rcases bestS_is a (stt a) p with e | ⟨h1, e⟩ | ⟨k, hk, h1, e⟩
 ·rw [e]; rfl
 ·rw [e, h1] at hn; cases hn
 ·rw [e] at hn
  have : isNo (stt a (placeN a p k)) = true := hn
  rw [h1] at this; cases this
theorem qJN (c : Int) (l : List qD) (r : Rect) {k : Nat} (hk : (k : Int) ≤ wid r) : pre ((List.range (wid r).toNat).map (fun x => c * sliv l r x)) k = c * wholeR l ⟨⟨r.X.A, r.X.A + k⟩, r.Y⟩ := by
 unfold pre wholeR
 rw [JI (g := fun i => c * sliv l r i) (fun i hi => QQ _ (by omega)), qKv, qJH]
theorem qMY (l : List qD) (r : Rect) {i j : Int} (h0 : 0 ≤ i) (h : i ≤ j) : wholeR l ⟨⟨r.X.A, r.X.A + j⟩, r.Y⟩ - wholeR l ⟨⟨r.X.A, r.X.A + i⟩, r.Y⟩ = wholeR l ⟨⟨r.X.A + i, r.X.A + j⟩, r.Y⟩ := by
 have := (qIb l).x (A := r.X.A) (m := r.X.A + i) (B := r.X.A + j) r.Y (by omega) (by omega)
 omega
theorem qAB (c : Int) (l : List qD) (r : Rect) {i j : Nat} (h : i ≤ j) (hj : (j : Int) ≤ wid r) : pre ((List.range (wid r).toNat).map (fun x => c * sliv l r x)) j - pre ((List.range (wid r).toNat).map (fun x => c * sliv l r x)) i = c * wholeR l ⟨⟨r.X.A + i, r.X.A + j⟩, r.Y⟩ := by
 rw [qJN c l r hj, qJN c l r (by omega), ← Int.mul_sub, qMY l r (by omega) (by omega)]
theorem gn_of (h : VE l ds ps r w t) {i q : Nat} (hi : i < (lineS l ds ps r w t).Sizes.length) (hq : ¬ ((q : Int) + szAt (lineS l ds ps r w t) i > (lineS l ds ps r w t).Len)) (hg : ¬ gnAt (lineS l ds ps r w t) i q < 0) :
  gnAt (lineS l ds ps r w t) i q = gainS l ds (ps.getD ((sizes ps (r.Y.B - r.Y.A)).2.getD i default).toNat default) ⟨⟨r.X.A + q, r.X.A + (q + szAt (lineS l ds ps r w t) i)⟩, r.Y⟩ w t
  ∧ (bestR l ds (ps.getD ((sizes ps (r.Y.B - r.Y.A)).2.getD i default).toNat default) ⟨⟨r.X.A + q, r.X.A + (q + szAt (lineS l ds ps r w t) i)⟩, r.Y⟩ w.Step t.Fine).2.1 = true := by
 have e : gnAt (lineS l ds ps r w t) i q = CP l ds (ps.getD ((sizes ps (r.Y.B - r.Y.A)).2.getD i default).toNat default) r w t (szAt (lineS l ds ps r w t) i) q := by
  unfold gnAt
  show ((qEf l ds ps r w t (r.Y.B - r.Y.A)).getD i default).getD q default = _
  unfold qEf
  rw [QQ _ (show i < (sizes ps (r.Y.B - r.Y.A)).1.length from hi)]
  unfold SA
  rw [QQ _ (by unfold szAt at hq; simp only [lineS] at hq; omega)]
  rfl
 rw [e] at hg ⊢
 unfold CP at hg ⊢
 by_cases c : (q : Int) % w.Pitch = 0
 ·rw [if_pos c] at hg ⊢
  have ep : LN r (q : Int) ((q : Int) + szAt (lineS l ds ps r w t) i) = ⟨⟨r.X.A + q, r.X.A + (q + szAt (lineS l ds ps r w t) i)⟩, r.Y⟩ := rfl
  rw [ep] at hg ⊢
  refine ⟨rfl, ?_⟩
  cases hb : (bestR l ds (ps.getD ((sizes ps (r.Y.B - r.Y.A)).2.getD i default).toNat default) ⟨⟨r.X.A + q, r.X.A + (q + szAt (lineS l ds ps r w t) i)⟩, r.Y⟩ w.Step t.Fine).2.1 with
  | true => rfl
  | false => unfold gainS at hg; rw [hb, cond_false] at hg; omega
 ·rw [if_neg c] at hg; omega
theorem qJv (h : VE l ds ps r w t) : ∀ (m p : Nat), (p : Int) ≤ (lineS l ds ps r w t).Len → (lineS l ds ps r w t).Len.toNat < p + m →
  rowV (lvV l ds ps w t) (fun c => t.Dust * wholeR l c) 2 w.Kerf r (r.X.A + wid r) (r.X.A + p) ((walk (lineS l ds ps r w t) m p).map (pqOf ps (r.Y.B - r.Y.A) (lineS l ds ps r w t) r.X.A)) = (bst (lineS l ds ps r w t) p).value
 | 0, p, hp, hm => by omega
 | m + 1, p, hp, hm => by
  have vl := HQ h
  have kf := vl.kerf
  have hlen : (lineS l ds ps r w t).Len = wid r := rfl
  have hkf : (lineS l ds ps r w t).Kerf = w.Kerf := rfl
  have hsz : (lineS l ds ps r w t).Sizes = (sizes ps (r.Y.B - r.Y.A)).1 := rfl
  have hch : (lineS l ds ps r w t).Chip = (List.range (wid r).toNat).map (fun x => t.Chip * sliv l r x) := rfl
  have hdu : (lineS l ds ps r w t).Dust = (List.range (wid r).toNat).map (fun x => t.Dust * sliv l r x) := rfl
  have ln := vl.len
  rw [walk]
  cases hn : isNo (bst (lineS l ds ps r w t) p) with
  | true =>
   rw [bst_no vl hp hn, hch, qAB _ l r (by omega) (by omega)]
   simp only [cond_true, List.map_nil, rowV]
   unfold lvV
   rw [if_pos rfl]
   show t.Chip * wholeR l ⟨⟨r.X.A + p, r.X.A + wid r⟩, r.Y⟩ = _
   rw [hlen, show (((wid r).toNat : Nat) : Int) = wid r by omega]
  | false =>
   obtain ⟨i, q, e, hi, hq, hg, hw, hv⟩ := bst_val vl hp hn
   obtain ⟨g1, g2⟩ := gn_of h hi hq hg
   rw [hv, e]
   simp only [cond_false, Int.toNat_natCast, List.map_cons]
   have sz := vl.sz i hi
   have en : (endN (lineS l ds ps r w t) q i : Int) = q + szAt (lineS l ds ps r w t) i := by unfold endN szAt; omega
   have hqs : (q : Int) + szAt (lineS l ds ps r w t) i ≤ wid r := by omega
   have szp : 1 ≤ szAt (lineS l ds ps r w t) i := sz.1
   obtain ⟨ip, hip, eip, _⟩ := (qL2 h.pr (r.Y.B - r.Y.A)).at_ i hi
   have hne : ¬ (sizes ps (r.Y.B - r.Y.A)).2.getD i default = -1 := by rw [eip]; omega
   have pq : pqOf ps (r.Y.B - r.Y.A) (lineS l ds ps r w t) r.X.A ⟨(i : Int), (q : Int)⟩ = (⟨r.X.A + q, r.X.A + (q + szAt (lineS l ds ps r w t) i)⟩, .leaf ⟨1, (sizes ps (r.Y.B - r.Y.A)).2.getD i default⟩) := rfl
   rw [pq]
   unfold rowV
   simp only
   rw [qOs]
   have ev : lvV l ds ps w t ⟨wiP r 2 ⟨r.X.A + q, r.X.A + (q + szAt (lineS l ds ps r w t) i)⟩, (sizes ps (r.Y.B - r.Y.A)).2.getD i default⟩ = gnAt (lineS l ds ps r w t) i q := by
    unfold lvV
    rw [if_neg hne]
    have ew : wiP r 2 ⟨r.X.A + q, r.X.A + (q + szAt (lineS l ds ps r w t) i)⟩ = ⟨⟨r.X.A + q, r.X.A + (q + szAt (lineS l ds ps r w t) i)⟩, r.Y⟩ := rfl
    simp only [ew]
    rw [g2, cond_true, g1]
   rw [ev]
   unfold candV
   have egap : (if r.X.A + (q : Int) > r.X.A + p then lvV l ds ps w t ⟨wiP r 2 ⟨r.X.A + p, r.X.A + q - w.Kerf⟩, -1⟩ + t.Dust * wholeR l (wiP r 2 ⟨r.X.A + q - w.Kerf, r.X.A + q⟩) else 0) = (if q = p then 0 else restV (lineS l ds ps r w t) p q) := by
    by_cases c : q = p
    ·rw [if_pos c, if_neg (by omega)]
    ·rw [if_neg c, if_pos (by omega)]
     have hk2 : ((q - w.Kerf.toNat : Nat) : Int) = q - w.Kerf := by omega
     unfold restV
     rw [hch, hdu, hkf]
     have d1 := qAB t.Chip l r (i := p) (j := q - w.Kerf.toNat) (by omega) (by omega)
     have d2 := qAB t.Dust l r (i := q - w.Kerf.toNat) (j := q) (by omega) (by omega)
     unfold lvV
     rw [if_pos rfl]
     show t.Chip * wholeR l ⟨⟨r.X.A + p, r.X.A + q - w.Kerf⟩, r.Y⟩ + t.Dust * wholeR l ⟨⟨r.X.A + q - w.Kerf, r.X.A + q⟩, r.Y⟩ = _
     rw [hk2] at d1 d2
     rw [show r.X.A + (q : Int) - w.Kerf = r.X.A + (q - w.Kerf) by omega, ← d1, ← d2]
     omega
   rw [egap]
   have etail : (if r.X.A + ((q : Int) + szAt (lineS l ds ps r w t) i) < r.X.A + wid r then t.Dust * wholeR l (wiP r 2 ⟨r.X.A + (q + szAt (lineS l ds ps r w t) i), imin (r.X.A + (q + szAt (lineS l ds ps r w t) i) + w.Kerf) (r.X.A + wid r)⟩) + rowV (lvV l ds ps w t) (fun c => t.Dust * wholeR l c) 2 w.Kerf r (r.X.A + wid r) (imin (r.X.A + (q + szAt (lineS l ds ps r w t) i) + w.Kerf) (r.X.A + wid r)) (List.map (pqOf ps (r.Y.B - r.Y.A) (lineS l ds ps r w t) r.X.A) (if (endN (lineS l ds ps r w t) q i : Int) = (lineS l ds ps r w t).Len then [] else walk (lineS l ds ps r w t) m (nxtN (lineS l ds ps r w t) (endN (lineS l ds ps r w t) q i)))) else 0)
     = (if (endN (lineS l ds ps r w t) q i : Int) = (lineS l ds ps r w t).Len then 0 else (pre (lineS l ds ps r w t).Dust (nxtN (lineS l ds ps r w t) (endN (lineS l ds ps r w t) q i)) - pre (lineS l ds ps r w t).Dust (endN (lineS l ds ps r w t) q i)) + (bst (lineS l ds ps r w t) (nxtN (lineS l ds ps r w t) (endN (lineS l ds ps r w t) q i))).value) := by
    by_cases c : (endN (lineS l ds ps r w t) q i : Int) = (lineS l ds ps r w t).Len
    ·rw [if_neg (by omega), if_pos c]
    ·rw [if_pos (by omega), if_neg c, if_neg c]
     have nb := nxt_b vl hi hq c
     have en2 : (nxtN (lineS l ds ps r w t) (endN (lineS l ds ps r w t) q i) : Int) = imin ((endN (lineS l ds ps r w t) q i : Int) + w.Kerf) (wid r) := by
      have mm := imin_or ((endN (lineS l ds ps r w t) q i : Int) + w.Kerf) (wid r)
      unfold nxtN; rw [hkf, hlen]; omega
     have m1 := imin_or ((endN (lineS l ds ps r w t) q i : Int) + w.Kerf) (wid r)
     have m2 := imin_or (r.X.A + (q + szAt (lineS l ds ps r w t) i) + w.Kerf) (r.X.A + wid r)
     have en3 : imin (r.X.A + (q + szAt (lineS l ds ps r w t) i) + w.Kerf) (r.X.A + wid r) = r.X.A + (nxtN (lineS l ds ps r w t) (endN (lineS l ds ps r w t) q i) : Int) := by omega
     rw [en3, qJv h m _ nb.2.1 (by omega)]
     rw [hdu, qAB t.Dust l r nb.2.2 (by omega)]
     show t.Dust * wholeR l ⟨⟨r.X.A + (q + szAt (lineS l ds ps r w t) i), r.X.A + (nxtN (lineS l ds ps r w t) (endN (lineS l ds ps r w t) q i) : Int)⟩, r.Y⟩ + _ = _
     rw [en]
   rw [etail]
   omega
end Go.SL.Saw

namespace Go.SL.Saw
variable {l : List qD} {ds : List Defect} {ps : List Product} {r : Rect} {w : Saw} {t : Rates}
def qEj (ps : List Product) (r : Rect) (a : Line) : List Pq := (JG a).map (pqOf ps (r.Y.B - r.Y.A) a r.X.A)
theorem qKA (ps : List Product) (r : Rect) (a : Line) : (qEj ps r a).map ptP = jL ps r a := pq_pt _ _ _ _ _
theorem qLY (r : Rect) : r.X.A + wid r = r.X.B := by unfold wid; omega
theorem qD0 (h : VE l ds ps r w t) : goodL w.Kerf r.X.B r.X.A ((qEj ps r (lineS l ds ps r w t)).map ptP) := by
 have vl := HQ h
 have := qDO vl r.X.A (bdN ps (r.Y.B - r.Y.A)) 3000 0 (by have := vl.len; omega)
 rw [qKA]
 unfold jL JG
 have e1 : (lineS l ds ps r w t).Len = wid r := rfl
 have e2 : (lineS l ds ps r w t).Kerf = w.Kerf := rfl
 rw [e1, e2, qLY, show r.X.A + ((0 : Nat) : Int) = r.X.A by omega] at this
 exact this
def edgeTr (ps : List Product) (r : Rect) (a : Line) (kerf : Int) : T := rowT 2 kerf r.X.B r.X.A (qEj ps r a)
theorem qDL (h : VE l ds ps r w t) : zS (edgeTr ps r (lineS l ds ps r w t) w.Kerf) = rowN 2 (lineS l ds ps r w t).Kerf r.X (jL ps r (lineS l ds ps r w t)) := by
 unfold edgeTr rowN
 rw [qGL 2 w.Kerf r.X.B _ _ (qD0 h), qKA]
 rfl
theorem qDw (h : VE l ds ps r w t) : okS (bdCat ps) w.Kerf (edgeTr ps r (lineS l ds ps r w t) w.Kerf) r := by
 have vl := HQ h
 have hr := h.vr
 unfold VR at hr
 have e : wiP r 2 ⟨r.X.A, r.X.B⟩ = r := rfl
 have key := qNY (bd := bdCat ps) (R := r) (axis := 2) (B := r.X.B) (.inl rfl) h.vw.kerf hr.1.2.2 (qEj ps r (lineS l ds ps r w t)) r.X.A hr.1.1 (by omega) (qD0 h) ?_
 ·rw [e] at key; exact key
 ·intro x hx
  unfold qEj JG at hx
  obtain ⟨y, hy, rfl⟩ := List.mem_map.1 hx
  obtain ⟨i, q, ey, hi, hq, hg⟩ := qFt vl 3000 0 (by have := vl.len; omega) y hy
  subst ey
  obtain ⟨ip, hip, eip, hd⟩ := (qL2 h.pr (r.Y.B - r.Y.A)).at_ i hi
  show ripB 1 = false ∧ chkN (bdCat ps) ⟨1, (sizes ps (r.Y.B - r.Y.A)).2.getD ((i : Int)).toNat default⟩ ⟨wiP r 2 ⟨r.X.A + q, r.X.A + (q + (sizes ps (r.Y.B - r.Y.A)).1.getD ((i : Int)).toNat default)⟩, 1⟩ = 0
  refine ⟨rfl, ?_⟩
  rw [Int.toNat_natCast, eip]
  unfold chkN
  simp only
  rw [if_neg (by omega), if_neg (by omega), if_neg (by rw [show ripB 1 = false from rfl]; simp), if_pos trivial]
  unfold bdCat
  rw [if_neg (by omega), Int.toNat_natCast]
  have hdm : dimOk (wiP r 2 ⟨r.X.A + q, r.X.A + (q + (sizes ps (r.Y.B - r.Y.A)).1.getD i default)⟩) (ps.getD ip default) = true := by
   show dimOk ⟨⟨r.X.A + q, r.X.A + (q + (sizes ps (r.Y.B - r.Y.A)).1.getD i default)⟩, r.Y⟩ (ps.getD ip default) = true
   unfold dimOk
   simp only [Bool.or_eq_true, Bool.and_eq_true, beq_iff_eq]
   rcases hd with ⟨d1, d2⟩ | ⟨d1, d2⟩
   ·right; omega
   ·left; omega
  rw [hdm]; rfl
theorem qLW (h : VE l ds ps r w t) (hn : (rowN 2 (lineS l ds ps r w t).Kerf r.X (jL ps r (lineS l ds ps r w t))).length ≤ 127) : VY l ds ps ⟨r, rowN 2 (lineS l ds ps r w t).Kerf r.X (jL ps r (lineS l ds ps r w t))⟩ w t := by
 refine ⟨h.sol, (TJ ds).2 ⟨h.dl, h.dd⟩, h.pr, h.vw, ?_⟩
 rw [KS]
 refine ⟨h.vr, h.vw.kerf, hn, ?_⟩
 simp only
 rw [← qDL h] at hn ⊢
 exact qOS (qDw h) hn
theorem edge_tv (h : VE l ds ps r w t) : tv (lvV l ds ps w t) (fun c => t.Dust * wholeR l c) w.Kerf (edgeTr ps r (lineS l ds ps r w t) w.Kerf) r = (bst (lineS l ds ps r w t) 0).value := by
 have vl := HQ h
 have hr := h.vr
 unfold VR at hr
 have ln := vl.len
 have e : wiP r 2 ⟨r.X.A, r.X.B⟩ = r := rfl
 have key := qNU (lvV l ds ps w t) (fun c => t.Dust * wholeR l c) (R := r) (axis := 2) (B := r.X.B) (.inl rfl) h.vw.kerf hr.1.2.2 (qEj ps r (lineS l ds ps r w t)) r.X.A hr.1.1 (by omega) (qD0 h)
 rw [e] at key
 unfold edgeTr
 rw [key]
 have := qJv h 3000 0 (by omega) (by omega)
 rw [qLY, show r.X.A + ((0 : Nat) : Int) = r.X.A by omega] at this
 exact this
theorem qMS (h : VE l ds ps r w t) (hn : (rowN 2 (lineS l ds ps r w t).Kerf r.X (jL ps r (lineS l ds ps r w t))).length ≤ 127) :
  (qJs l ds ps ⟨r, rowN 2 (lineS l ds ps r w t).Kerf r.X (jL ps r (lineS l ds ps r w t))⟩ w t).Value = (bst (lineS l ds ps r w t) 0).value + t.Chip * (volT l - wholeR l r) := by
 rw [qNz (qLW h hn), ← edge_tv h]
 unfold tv lvP ctP lvT ctT
 simp only
 rw [← qDL h, qCo NS _ _ (qAM (qDw h)), qCo (cutG w.Kerf) _ _ (qAM (qDw h))]
theorem qGQ (a : qP) {w : Prop} (_ : w) : RZ a = some true := by
 obtain ⟨b, eb⟩ := qOx a
 unfold RZ
 rw [eb]
 simp only [Option.bind_some]
 cases b with
 | false => simp only [Bool.not_false, cond_true, OP, Option.bind_some]
 | true =>
  simp only [Bool.not_true, cond_false, qNK, Option.bind_some]
  by_cases c : (UX a.Solid a.Defects a.Products a.Strip a.Saw a.Rates).2.2 = 0
  ·have c' : ((UX a.Solid a.Defects a.Products a.Strip a.Saw a.Rates).2.2 != 0) = false := by simpa using c
   obtain ⟨h, ev⟩ := qOA c
   have hn : (rowN 2 (lineS a.Solid a.Defects a.Products a.Strip a.Saw a.Rates).Kerf a.Strip.X (jL a.Products a.Strip (lineS a.Solid a.Defects a.Products a.Strip a.Saw a.Rates))).length ≤ 127 ∧ (UX a.Solid a.Defects a.Products a.Strip a.Saw a.Rates).1 = rowN 2 (lineS a.Solid a.Defects a.Products a.Strip a.Saw a.Rates).Kerf a.Strip.X (jL a.Products a.Strip (lineS a.Solid a.Defects a.Products a.Strip a.Saw a.Rates)) := by
    unfold UX at c ⊢
    rw [if_pos (qAC.2 h)] at c ⊢
    unfold qGG at c ⊢
    by_cases c2 : (rowN 2 (lineS a.Solid a.Defects a.Products a.Strip a.Saw a.Rates).Kerf a.Strip.X (jL a.Products a.Strip (lineS a.Solid a.Defects a.Products a.Strip a.Saw a.Rates))).length ≤ 127
    ·rw [if_pos c2]; exact ⟨c2, rfl⟩
    ·rw [if_neg c2] at c; exact absurd c (by decide)
   have vy := qLW h hn.1
   have val := qMS h hn.1
   rw [c', hn.2, cond_false, (Of_ok vy).1, (FZ a.Solid).1, LL h.sol]
   simp only [Option.bind_some, MM h.sol, qH2 h.sol, beq_self_eq_true, cond_true]
   rw [val, ev]
   have bv := qOb h.sol
   have b0 := bst0_BV (HQ h)
   have bw := qLG h.sol a.Strip
   have wl := qOz h.sol a.Strip
   have ew : volS a.Solid a.Strip.X a.Strip.Y ⟨0, solLen a.Solid⟩ = wholeR a.Solid a.Strip := rfl
   rw [ew, qJ (n := volT a.Solid - _) (by omega) (by omega)]
   have m1 := WI (a := a.Rates.Chip) (b := volT a.Solid - wholeR a.Solid a.Strip) (m := 1000) (n := 28800000000) (by have := h.vw.chip; omega) (by have := h.vw.chip; omega) (by omega) (by omega) (by omega) (by omega)
   rw [qJ (n := a.Rates.Chip * _) (by omega) (by omega), qJ (by omega) (by omega)]
   simp only [beq_self_eq_true, cond_true, OP, Option.bind_some]
   rfl
  ·have c' : ((UX a.Solid a.Defects a.Products a.Strip a.Saw a.Rates).2.2 != 0) = true := by simpa using c
   have hz : (UX a.Solid a.Defects a.Products a.Strip a.Saw a.Rates).1 = [] ∧ (UX a.Solid a.Defects a.Products a.Strip a.Saw a.Rates).2.1 = 0 := by
    unfold UX qGG at c ⊢
    split
    ·rename_i h1
     rw [if_pos h1] at c
     split
     ·rename_i h2; rw [if_pos h2] at c; exact absurd rfl c
     ·exact ⟨rfl, rfl⟩
    ·exact ⟨rfl, rfl⟩
   rw [c', hz.1, hz.2]
   simp only [cond_true, OP, Option.bind_some]
   rfl
end Go.SL.Saw
