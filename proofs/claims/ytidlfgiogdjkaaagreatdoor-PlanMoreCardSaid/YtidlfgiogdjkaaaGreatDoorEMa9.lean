/- Plans: the plan line is a good line; the best plan. -/
import Derived.Test.YtidlfgiogdjkaaaGreatDoorEMa8
import Derived.Test.YtidlfgiogdjkaaaGreatDoorEMod
import Derived.Test.YtidlfgiogdjkaaaGreatDoorEMa7
set_option linter.unusedVariables false
set_option linter.unusedSimpArgs false
namespace Go.SL.Saw
variable {l : List qA} {ds : List Defect} {ps : List Product} {F : Rect} {w : Saw} {t : Rates}
theorem qFc (h : (jC l ds ps F w t).2.2 = 0) : -200000000000000 ≤ (jC l ds ps F w t).2.1 ∧ (jC l ds ps F w t).2.1 ≤ 200000000000000 ∧ (jC l ds ps F w t).1 = rowN 2 (lineS l ds ps F w t).Kerf F.X (zE ps F (lineS l ds ps F w t)) ∧ (jC l ds ps F w t).1.length ≤ 127 := by
 obtain ⟨hv, e⟩ := qGP h
 have hn : (rowN 2 (lineS l ds ps F w t).Kerf F.X (zE ps F (lineS l ds ps F w t))).length ≤ 127 ∧ (jC l ds ps F w t).1 = rowN 2 (lineS l ds ps F w t).Kerf F.X (zE ps F (lineS l ds ps F w t)) := by
  unfold jC at h ⊢
  rw [if_pos (YA.2 hv)] at h ⊢
  unfold qDH at h ⊢
  by_cases c2 : (rowN 2 (lineS l ds ps F w t).Kerf F.X (zE ps F (lineS l ds ps F w t))).length ≤ 127
  ·rw [if_pos c2]; exact ⟨c2, rfl⟩
  ·rw [if_neg c2] at h; exact absurd h (by decide)
 have vy := qN5 hv hn.1
 have val := qOF hv hn.1
 have bd := (Of_ok vy).2
 have c0 := yC_nn vy
 have bv := qK7 hv.sol
 have wl := qG2 hv.sol F
 have wn := qK0 l F
 have hb := bd.nB
 have hd := bd.nD
 have hw := bd.nW
 have hch := hv.vw.chip
 have hdu := hv.vw.dust
 have val2 : (qHe l ds ps ⟨F, rowN 2 (lineS l ds ps F w t).Kerf F.X (zE ps F (lineS l ds ps F w t))⟩ w t).Value = yW l ds ps ⟨F, rowN 2 (lineS l ds ps F w t).Kerf F.X (zE ps F (lineS l ds ps F w t))⟩ w t.Fine + (t.Chip * yC l ds ps ⟨F, rowN 2 (lineS l ds ps F w t).Kerf F.X (zE ps F (lineS l ds ps F w t))⟩ w t.Fine + t.Dust * yD l ds ps ⟨F, rowN 2 (lineS l ds ps F w t).Kerf F.X (zE ps F (lineS l ds ps F w t))⟩ w t.Fine) := rfl
 have hC : yC l ds ps ⟨F, rowN 2 (lineS l ds ps F w t).Kerf F.X (zE ps F (lineS l ds ps F w t))⟩ w t.Fine ≤ 28800000000 ∧ yD l ds ps ⟨F, rowN 2 (lineS l ds ps F w t).Kerf F.X (zE ps F (lineS l ds ps F w t))⟩ w t.Fine ≤ 28800000000 := by unfold yC at *; omega
 generalize yC l ds ps ⟨F, rowN 2 (lineS l ds ps F w t).Kerf F.X (zE ps F (lineS l ds ps F w t))⟩ w t.Fine = C at *
 generalize yD l ds ps ⟨F, rowN 2 (lineS l ds ps F w t).Kerf F.X (zE ps F (lineS l ds ps F w t))⟩ w t.Fine = D at *
 have m1 : 0 ≤ t.Chip * C ∧ t.Chip * C ≤ 1000 * 28800000000 := ⟨Int.mul_nonneg hch.1 c0, Int.mul_le_mul hch.2 hC.1 c0 (by omega)⟩
 have m2 : 0 ≤ t.Dust * D ∧ t.Dust * D ≤ 1000 * 28800000000 := ⟨Int.mul_nonneg hdu.1 hd.1, Int.mul_le_mul hdu.2 hC.2 hd.1 (by omega)⟩
 have m3 : 0 ≤ t.Chip * (volT l - wholeR l F) ∧ t.Chip * (volT l - wholeR l F) ≤ 1000 * 28800000000 := ⟨Int.mul_nonneg hch.1 (by omega), Int.mul_le_mul hch.2 (by omega) (by omega) (by omega)⟩
 rw [e, hn.2]
 refine ⟨by omega, by omega, rfl, hn.1⟩
theorem stG_b (l : List qA) (ds : List Defect) (ps : List Product) (F : Rect) (w : Saw) (t : Rates) (h : Int) (p : Nat) : okN (stG l ds ps F w t h p).1 ∧ (stG l ds ps F w t h p).2.length ≤ 127 := by
 unfold okN stG
 split
 ·split
  ·rename_i c
   have := qFc c.1
   exact ⟨by omega, this.2.2.2⟩
  ·simp
 ·simp
theorem EI (h : VE l ds ps F w t) : VL (qX l ds ps F w t) := by
 have hr := h.vr
 unfold VR at hr
 have hh := qNY ps
 have rate : ∀ c : Int, 0 ≤ c ∧ c ≤ 1000 → ∀ j, j < ((List.range (hei F).toNat).map (fun p : Nat => c * wholeR l (strR F p (p + 1)))).length → okN (((List.range (hei F).toNat).map (fun p : Nat => c * wholeR l (strR F p (p + 1)))).getD j default) := by
  intro c hc j hj
  simp only [List.length_map, List.length_range] at hj
  rw [zB _ hj]
  have wb := qFn h.sol (strR F j (j + 1))
  have m1 : 0 ≤ c * wholeR l (strR F j (j + 1)) ∧ c * wholeR l (strR F j (j + 1)) ≤ 1000 * 28800000000 := ⟨Int.mul_nonneg hc.1 wb.1, Int.mul_le_mul hc.2 wb.2 wb.1 (by omega)⟩
  unfold okN; omega
 unfold qX
 refine ⟨by unfold hei; simp only; omega, h.vw.kerf, by simp, hh, fun i hi => by have := hts_b h.pr (jJ hi); simp only; omega, by simp, by simp only [List.length_map, List.length_range]; unfold hei; omega, by simp only [List.length_map, List.length_range]; unfold hei; omega, ?_, ?_, rate t.Chip h.vw.chip, rate t.Dust h.vw.dust⟩
 ·intro i hi
  simp only at hi ⊢
  rw [zB _ hi]
  simp only [List.length_map, List.length_range]
  rfl
 ·intro i hi j hj
  simp only at hi hj ⊢
  rw [zB _ hi] at hj ⊢
  simp only [List.length_map, List.length_range] at hj
  rw [zB _ hj]
  exact (stG_b l ds ps F w t _ _).1
noncomputable def stN (l : List qA) (ds : List Defect) (ps : List Product) (F : Rect) (w : Saw) (t : Rates) (x : Piece) : List Node := (stG l ds ps F w t ((hts ps).getD x.Size.toNat default) x.At.toNat).2
noncomputable def RC (l : List qA) (ds : List Defect) (ps : List Product) (F : Rect) (w : Saw) (t : Rates) : List Pt := (wD (qX l ds ps F w t)).map (ptOf (qX l ds ps F w t) F.Y.A (stN l ds ps F w t))
noncomputable def HD (l : List qA) (ds : List Defect) (ps : List Product) (F : Rect) (w : Saw) (t : Rates) : List Node := rowN 3 w.Kerf F.Y (RC l ds ps F w t)
def zeroP : Pattern := ⟨⟨⟨0, 0⟩, ⟨0, 0⟩⟩, []⟩
open Classical in
noncomputable def XN (l : List qA) (ds : List Defect) (ps : List Product) (F : Rect) (w : Saw) (t : Rates) : Pattern × Int × Int :=
 if chkE l ds ps F w t = 0 then (if (HD l ds ps F w t).length ≤ 127 then (⟨F, HD l ds ps F w t⟩, (bst (qX l ds ps F w t) 0).value + t.Chip * (volT l - wholeR l F), 0) else (zeroP, 0, 13)) else (zeroP, 0, chkE l ds ps F w t)
theorem qPi (h : VE l ds ps F w t) (g : Piece → List Node) : goodL w.Kerf F.Y.B F.Y.A ((wD (qX l ds ps F w t)).map (ptOf (qX l ds ps F w t) F.Y.A g)) := by
 have vl := EI h
 have := qBE vl F.Y.A g 3000 0 (by have := vl.len; omega)
 have e1 : (qX l ds ps F w t).Len = hei F := rfl
 have e2 : (qX l ds ps F w t).Kerf = w.Kerf := rfl
 unfold wD
 rw [e1, e2, show F.Y.A + hei F = F.Y.B by unfold hei; omega, show F.Y.A + ((0 : Nat) : Int) = F.Y.A by omega] at this
 exact this
theorem qCr (l : List qA) (ds : List Defect) (ps : List Product) (F : Rect) (w : Saw) (t : Rates) : RM l ds ps F w t = some (XN l ds ps F w t) := by
 unfold RM XN
 rw [qA1]
 simp only [Option.bind_some]
 by_cases c : chkE l ds ps F w t = 0
 ·have h := YA.1 c
  have hr := h.vr
  have hr' := hr
  unfold VR at hr'
  have vl := EI h
  have ln := vl.len
  rw [c, if_pos rfl, qM1 h]
  simp only [Option.bind_some, bne_self_eq_false, cond_false]
  rw [show (Line.mk (qX l ds ps F w t).Len (qX l ds ps F w t).Kerf (qX l ds ps F w t).Pitch (qX l ds ps F w t).Sizes (qX l ds ps F w t).Gain (qX l ds ps F w t).Chip (qX l ds ps F w t).Dust) = qX l ds ps F w t from rfl, MM vl]
  simp only [Option.bind_some, bne_self_eq_false, cond_false]
  have hbl : (wD (qX l ds ps F w t)).length ≤ 3000 := qGA _ _ _
  have hsz : (qX l ds ps F w t).Sizes = hts ps := rfl
  have hlen : (qX l ds ps F w t).Len = hei F := rfl
  have k := DF (wD (qX l ds ps F w t)) (fun n (s : List Span × List (List Node)) x => PN F (qX l ds ps F w t, IG l ds ps F w t) (wD (qX l ds ps F w t), (bst (qX l ds ps F w t) 0).value, 0) n s.1 s.2 x) (fun x => (x : Int)) (fun _ x s => (s.1 ++ [(ptOf (qX l ds ps F w t) F.Y.A (stN l ds ps F w t) x).1], s.2 ++ [(ptOf (qX l ds ps F w t) F.Y.A (stN l ds ps F w t) x).2])) (fun s => s)
   (fun x s => s.1.length = x ∧ s.2.length = x) (by omega)
   (fun n x s hx hs => by
    obtain ⟨i, q, ey, hi, hq, hg⟩ := qDE vl 3000 0 (by omega) _ (jJ hx)
    have ey' : (wD (qX l ds ps F w t)).getD x default = ⟨(i : Int), (q : Int)⟩ := ey
    have sb := hts_b h.pr (jJ hi)
    have hi' : i < (hts ps).length := hi
    have hq' : (q : Int) + (hts ps).getD i default ≤ hei F := by unfold szAt at hq; rw [hlen] at hq; have : (qX l ds ps F w t).Sizes.getD i default = (hts ps).getD i default := rfl; omega
    have hb : hei F ≤ 1200 := by unfold hei; omega
    refine ⟨?_, by simp [hs.1], by simp [hs.2]⟩
    rw [PN, decide_eq_true (show (x : Int) < _ by simp only; omega), qL (by omega) (by simp only; omega)]
    simp only [Int.toNat_natCast, ey']
    have hnr : q < nRow F ((hts ps).getD i default) := by unfold nRow; omega
    have hst : (IG l ds ps F w t).getD i default = (List.range (nRow F ((hts ps).getD i default))).map (fun p => (stG l ds ps F w t ((hts ps).getD i default) p).2) := by unfold IG; rw [zB _ hi']
    have hsl : (IG l ds ps F w t).length = (hts ps).length := by unfold IG; simp
    rw [hsz, qL (by omega) (by omega), qE (n := (q : Int) + (hts ps).getD i default) (by omega) (by omega), qGS hr (by omega) (by omega), qV (by omega) (by omega), qL (by omega) (by rw [hsl]; omega)]
    simp only [Int.toNat_natCast, hst, List.length_map, List.length_range]
    rw [qL (by omega) (by omega)]
    unfold VQ
    rw [qV (by omega) (by omega), qR (by omega)]
    simp only [cond_true, Option.bind_some]
    rw [zB _ hnr]
    rfl)
   (fun n s _ => by rw [PN]; simp) (i := 0) rfl ([], []) ⟨rfl, rfl⟩
  rw [k.1]
  have fold2 : ∀ (L : List Piece) (i : Nat) (s : List Span × List (List Node)), foldi (fun _ x (s : List Span × List (List Node)) => (s.1 ++ [(ptOf (qX l ds ps F w t) F.Y.A (stN l ds ps F w t) x).1], s.2 ++ [(ptOf (qX l ds ps F w t) F.Y.A (stN l ds ps F w t) x).2])) i L s = (s.1 ++ (L.map (ptOf (qX l ds ps F w t) F.Y.A (stN l ds ps F w t))).map Prod.fst, s.2 ++ (L.map (ptOf (qX l ds ps F w t) F.Y.A (stN l ds ps F w t))).map Prod.snd) := by
   intro L
   induction L with
   | nil => intro i s; simp [foldi]
   | cons x L ih =>
    intro i s
    show foldi _ (i + 1) L _ = _
    rw [ih]
    simp
  rw [fold2]
  simp only [Option.bind_some, List.nil_append]
  have hnd : ndC (RC l ds ps F w t) + 1 ≤ 1000000000 := by
   have := qFj (qX l ds ps F w t) F.Y.A (stN l ds ps F w t) 127 (wD (qX l ds ps F w t)) (fun x _ => (stG_b l ds ps F w t _ _).2)
   unfold RC
   have h3 : (3 + 127) * (wD (qX l ds ps F w t)).length ≤ (3 + 127) * 3000 := Nat.mul_le_mul_left _ hbl
   omega
  have hrow := qP3 hr (axis := 3) (kerf := w.Kerf) (.inr rfl) h.vw.kerf (L := RC l ds ps F w t) (by unfold RC; simp; omega) (qPi h (stN l ds ps F w t)) hnd
  have hrow' : WB F 3 w.Kerf ((RC l ds ps F w t).map Prod.fst) ((RC l ds ps F w t).map Prod.snd) = some (rowR (HD l ds ps F w t)) := hrow
  show ((WB F 3 w.Kerf ((RC l ds ps F w t).map Prod.fst) ((RC l ds ps F w t).map Prod.snd)).bind _) = _
  rw [hrow']
  unfold rowR
  simp only [Option.bind_some]
  by_cases c2 : (HD l ds ps F w t).length ≤ 127
  ·rw [if_pos c2, if_pos c2, qJv h.sol, qHN h.sol]
   simp only [bne_self_eq_false, cond_false, Option.bind_some]
   have bv := qK7 h.sol
   have b0 := bst0_BV vl
   have bw := qFn h.sol F
   have wl := qG2 h.sol F
   have m3 : 0 ≤ t.Chip * (volT l - wholeR l F) ∧ t.Chip * (volT l - wholeR l F) ≤ 1000 * 28800000000 := ⟨Int.mul_nonneg h.vw.chip.1 (by omega), Int.mul_le_mul h.vw.chip.2 (by omega) (by omega) (by omega)⟩
   rw [qE (n := volT l - _) (by omega) (by omega), qE (n := t.Chip * _) (by omega) (by omega), qE (by omega) (by omega)]
  ·rw [if_neg c2, if_neg c2]
   rfl
 ·have c' : (chkE l ds ps F w t != 0) = true := by simpa using c
  rw [c', if_neg c]; rfl
end Go.SL.Saw

namespace Go.SL.Saw
variable {l : List qA} {ds : List Defect} {ps : List Product} {F : Rect} {w : Saw} {t : Rates}
theorem bst_le {a : Line} {s : List Int} {g : List (List Int)} (ha : VL a) (hb : VL (more a s g))
  (he : ∀ i, i < a.Sizes.length → ∃ i', i' < s.length ∧ s.getD i' default = a.Sizes.getD i default ∧ ∀ q : Nat, ¬ ((q : Int) + szAt a i > a.Len) → ¬ gnAt a i q < 0 → gnAt a i q ≤ gnAt (more a s g) i' q) :
  ∀ d p : Nat, a.Len.toNat - p ≤ d → (p : Int) ≤ a.Len → (bst a p).value ≤ (bst (more a s g) p).value ∧ (isNo (stt a p) = false → isNo (stt (more a s g) p) = false ∧ (stt a p).value ≤ (stt (more a s g) p).value) := by
 intro d
 induction d with
 | zero => exact fun p h1 h2 => step ha hb he (fun x h3 h4 => by omega) h2
 | succ d ih => exact fun p h1 h2 => step ha hb he (fun x h3 h4 => ih x (by omega) h4) h2
where
 step {a : Line} {s : List Int} {g : List (List Int)} (ha : VL a) (hb : VL (more a s g))
  (he : ∀ i, i < a.Sizes.length → ∃ i', i' < s.length ∧ s.getD i' default = a.Sizes.getD i default ∧ ∀ q : Nat, ¬ ((q : Int) + szAt a i > a.Len) → ¬ gnAt a i q < 0 → gnAt a i q ≤ gnAt (more a s g) i' q) {p : Nat}
  (ih : ∀ x : Nat, p < x → (x : Int) ≤ a.Len → (bst a x).value ≤ (bst (more a s g) x).value ∧ (isNo (stt a x) = false → isNo (stt (more a s g) x) = false ∧ (stt a x).value ≤ (stt (more a s g) x).value)) (hp : (p : Int) ≤ a.Len) :
  (bst a p).value ≤ (bst (more a s g) p).value ∧ (isNo (stt a p) = false → isNo (stt (more a s g) p) = false ∧ (stt a p).value ≤ (stt (more a s g) p).value) := by
  have st : isNo (stt a p) = false → isNo (stt (more a s g) p) = false ∧ (stt a p).value ≤ (stt (more a s g) p).value := by
   intro hn
   rw [qDb ha hp] at hn ⊢
   rw [qDb hb (show (p : Int) ≤ (more a s g).Len from hp)]
   rcases startS_is a (bst a) p with e | ⟨i, hi, hq, hg, e⟩
   ·rw [e] at hn; cases hn
   ·obtain ⟨i', hi', es, eg⟩ := he i hi
    have e1 : szAt (more a s g) i' = szAt a i := es
    have e2 := eg p hq hg
    have ge := qJJ (a := more a s g) (best := bst (more a s g)) (p := p) (i := i') hi' (by rw [e1]; exact hq) (by omega)
    refine ⟨ge.1, ?_⟩
    rw [e]
    refine Int.le_trans ?_ ge.2
    have en : endN (more a s g) p i' = endN a p i := by unfold endN; rw [e1]
    show candV a (bst a) p i ≤ _
    unfold candV
    rw [en]
    show _ ≤ gnAt (more a s g) i' p + (if (endN a p i : Int) = a.Len then 0 else (pre a.Dust (nxtN a (endN a p i)) - pre a.Dust (endN a p i)) + (bst (more a s g) (nxtN a (endN a p i))).value)
    by_cases c : (endN a p i : Int) = a.Len
    ·rw [if_pos c, if_pos c]; omega
    ·have nb := qFu ha hi hq c
     have := (ih _ nb.1 nb.2.1).1
     rw [if_neg c, if_neg c]; omega
  refine ⟨?_, st⟩
  rw [ID ha hp, ID hb (show (p : Int) ≤ (more a s g).Len from hp)]
  have ge := qLr (more a s g) (stt (more a s g)) p
  rcases bestS_is a (stt a) p with e | ⟨hn, e⟩ | ⟨k, hk, hn, e⟩
  ·rw [e]; exact ge.1
  ·rw [e]; have := st hn; exact Int.le_trans this.2 (ge.2.1 this.1)
  ·rw [e]
   have hx := (RL ha).1 hk
   have lo := DM ha p k
   have := (ih _ (by omega) hx).2 hn
   have g3 := ge.2.2 k hk this.1
   refine Int.le_trans ?_ g3
   show (stt a (placeN a p k)).value + restV a p (placeN a p k) ≤ (stt (more a s g) (placeN a p k)).value + restV a p (placeN a p k)
   omega
theorem qHh {a : Line} (h : VL a) {p : Nat} (hp : (p : Int) ≤ a.Len) : (isNo (bst a p) = true ∧ (bst a p).value = pre a.Chip a.Len.toNat - pre a.Chip p) ∨ (isNo (bst a p) = false ∧ pre a.Chip a.Len.toNat - pre a.Chip p < (bst a p).value) := by
 rw [ID h hp]
 unfold bestS
 refine RN (P := fun c => (isNo c = true ∧ c.value = pre a.Chip a.Len.toNat - pre a.Chip p) ∨ (isNo c = false ∧ pre a.Chip a.Len.toNat - pre a.Chip p < c.value)) ?_ (fun k c _ hk hc => ?_)
 ·unfold LZ
  cases h1 : isNo (stt a p) with
  | true => exact .inl ⟨rfl, rfl⟩
  | false =>
   by_cases h2 : (stt a p).value > pre a.Chip a.Len.toNat - pre a.Chip p
   ·rw [decide_eq_true h2]; exact .inr ⟨h1, h2⟩
   ·rw [decide_eq_false h2]; exact .inl ⟨rfl, rfl⟩
 ·rw [qA0]
  cases h1 : isNo (stt a (placeN a p k)) with
  | true => exact hc
  | false =>
   by_cases h2 : (stt a (placeN a p k)).value + restV a p (placeN a p k) > c.value
   ·rw [decide_eq_true h2]
    refine .inr ⟨h1, ?_⟩
    show _ < (stt a (placeN a p k)).value + restV a p (placeN a p k)
    rcases hc with hc | hc <;> omega
   ·rw [decide_eq_false h2]; exact hc
theorem qJQ (ps : List Product) (r : Rect) (a : Line) (kerf : Int) : hasB (rowN 2 kerf r.X (zE ps r a)) = !isNo (bst a 0) := by
 unfold zE wD
 rw [show walk a 3000 0 = (bif isNo (bst a 0) then [] else (bst a 0).piece :: (if (endN a (bst a 0).piece.At.toNat (bst a 0).piece.Size.toNat : Int) = a.Len then [] else walk a 2999 (nxtN a (endN a (bst a 0).piece.At.toNat (bst a 0).piece.Size.toNat)))) from rfl]
 cases isNo (bst a 0) with
 | true => rfl
 | false =>
  simp only [cond_false, List.map_cons, Bool.not_false]
  unfold rowN hasB
  rw [LA]
  split
  ·simp [ptOf, bdN]
  ·simp [ptOf, bdN]
theorem walk_cnt (h : VE l ds ps F w t) : ∀ (m p : Nat), (p : Int) ≤ (lineS l ds ps F w t).Len → walk (lineS l ds ps F w t) m p = [] ∨ ∃ q : Nat, p ≤ q ∧ (q : Int) % w.Pitch = 0 ∧ (((walk (lineS l ds ps F w t) m p).length : Int) - 1) * w.Pitch + q ≤ wid F
 | 0, _, _ => .inl rfl
 | m + 1, p, hp => by
  have vl := QI h
  have hlen : (lineS l ds ps F w t).Len = wid F := rfl
  rw [walk]
  cases hn : isNo (bst (lineS l ds ps F w t) p) with
  | true => exact .inl rfl
  | false =>
   right
   obtain ⟨i, q, e, hi, hq, hg, hw, hv⟩ := qNv vl hp hn
   have hmod : (q : Int) % w.Pitch = 0 := by
    have e' : gnAt (lineS l ds ps F w t) i q = WL l ds (ps.getD ((sizes ps (F.Y.B - F.Y.A)).2.getD i default).toNat default) F w t (szAt (lineS l ds ps F w t) i) q := by
     unfold gnAt
     show ((TH l ds ps F w t (F.Y.B - F.Y.A)).getD i default).getD q default = _
     unfold TH
     rw [zB _ (show i < (sizes ps (F.Y.B - F.Y.A)).1.length from hi)]
     unfold UJ
     rw [zB _ (by unfold szAt at hq; simp only [lineS] at hq; omega)]
     rfl
    rw [e'] at hg
    unfold WL at hg
    by_cases c : (q : Int) % w.Pitch = 0
    ·exact c
    ·rw [if_neg c] at hg; omega
   have sz := vl.sz i hi
   have hp1 := h.vw.pitch
   refine ⟨q, by omega, hmod, ?_⟩
   rw [e]
   simp only [cond_false, Int.toNat_natCast]
   have szp : 1 ≤ szAt (lineS l ds ps F w t) i := sz.1
   have en : (endN (lineS l ds ps F w t) q i : Int) = q + szAt (lineS l ds ps F w t) i := by unfold endN szAt; omega
   have hqw : (q : Int) ≤ wid F := by omega
   by_cases c : (endN (lineS l ds ps F w t) q i : Int) = (lineS l ds ps F w t).Len
   ·rw [if_pos c]; simp; omega
   ·rw [if_neg c]
    have nb := qFu vl hi hq c
    rcases walk_cnt h m _ nb.2.1 with e0 | ⟨q', h1, h2, h3⟩
    ·rw [e0]; simp; omega
    ·have hlt : (q : Int) < q' := by omega
     have hge : (q : Int) + w.Pitch ≤ q' := by
      have d1 := Int.emod_emod_of_dvd q (Int.dvd_refl w.Pitch)
      obtain ⟨u, hu⟩ := Int.dvd_of_emod_eq_zero hmod
      obtain ⟨v, hv'⟩ := Int.dvd_of_emod_eq_zero h2
      have huv : u < v := by
       apply Classical.byContradiction
       intro hc
       have := Int.mul_le_mul_of_nonneg_left (show v ≤ u by omega) (show 0 ≤ w.Pitch by omega)
       omega
      have := Int.mul_le_mul_of_nonneg_left (show u + 1 ≤ v by omega) (show 0 ≤ w.Pitch by omega)
      rw [Int.mul_add, Int.mul_one] at this
      omega
     rw [List.length_cons, show (((walk (lineS l ds ps F w t) m (nxtN (lineS l ds ps F w t) (endN (lineS l ds ps F w t) q i))).length + 1 : Nat) : Int) - 1 = ((walk (lineS l ds ps F w t) m (nxtN (lineS l ds ps F w t) (endN (lineS l ds ps F w t) q i))).length : Int) - 1 + 1 by omega, Int.add_mul, Int.one_mul]
     omega
theorem qHg (h : VE l ds ps F w t) (hs : (F.X.B - F.X.A) / w.Pitch + 1 ≤ 31) : (jC l ds ps F w t).2.2 = 0 := by
 have hp := h.vw.pitch
 have vl := QI h
 have hr := h.vr
 unfold VR at hr
 have hlen : (wD (lineS l ds ps F w t)).length ≤ 31 := by
  rcases walk_cnt h 3000 0 (by have := vl.len; omega) with e | ⟨q, _, _, h3⟩
  ·unfold wD; rw [e]; simp
  ·unfold wD
   have h4 : ((walk (lineS l ds ps F w t) 3000 0).length : Int) - 1 ≤ (F.X.B - F.X.A) / w.Pitch := by
    apply Int.le_ediv_of_mul_le (by omega)
    unfold wid at h3
    omega
   omega
 have hn : (rowN 2 (lineS l ds ps F w t).Kerf F.X (zE ps F (lineS l ds ps F w t))).length ≤ 127 := by
  unfold rowN
  have h1 := qGc 2 (lineS l ds ps F w t).Kerf F.X.B (zE ps F (lineS l ds ps F w t)) F.X.A
  have h2 := qFj (lineS l ds ps F w t) F.X.A (bdN ps (F.Y.B - F.Y.A)) 1 (wD (lineS l ds ps F w t)) (fun x _ => by simp [bdN])
  unfold zE at *
  have h3 : (3 + 1) * (wD (lineS l ds ps F w t)).length ≤ 4 * 31 := Nat.mul_le_mul_left _ hlen
  rw [List.length_append]
  split
  ·simp; omega
  ·simp; omega
 unfold jC qDH
 rw [if_pos (YA.2 h), if_pos hn]
theorem qQ9 {p : Product} (h : VE l ds ps F w t) (h' : VE l ds (ps ++ [p]) F w t) (hs : (F.X.B - F.X.A) / w.Pitch + 1 ≤ 31) {x : Int} (hx : 1 ≤ x) {q : Nat} (hq : (q : Int) + x ≤ hei F) (hg : ¬ (stG l ds ps F w t x q).1 < 0) : (stG l ds ps F w t x q).1 ≤ (stG l ds (ps ++ [p]) F w t x q).1 := by
 have v1 := qF8 h (p := (q : Int)) (q := (q : Int) + x) (by omega) (by omega) hq
 have v2 := qF8 h' (p := (q : Int)) (q := (q : Int) + x) (by omega) (by omega) hq
 have s1 := qHg v1 (by unfold strR; exact hs)
 have s2 := qHg v2 (by unfold strR; exact hs)
 have e1 := qGP s1
 have e2 := qGP s2
 have n1 := (qFc s1).2.2.1
 have n2 := (qFc s2).2.2.1
 have em := qQa v1 v2
 unfold stG at hg ⊢
 by_cases c : (q : Int) % w.Pitch = 0
 ·rw [if_pos c] at hg ⊢
  rw [if_pos c]
  by_cases c1 : hasB (jC l ds ps (strR F q (q + x)) w t).1 = true
  ·rw [if_pos ⟨s1, c1⟩] at hg ⊢
   have c2 : hasB (jC l ds (ps ++ [p]) (strR F q (q + x)) w t).1 = true := by
    rw [n1, qJQ] at c1
    rw [n2, qJQ]
    have l1 := (QI v1).len
    have l2 := (QI v2).len
    have a1 := qHh (QI v1) (p := 0) (by omega)
    have a2 := qHh (QI v2) (p := 0) (by omega)
    have echip : (lineS l ds (ps ++ [p]) (strR F q (q + x)) w t).Chip = (lineS l ds ps (strR F q (q + x)) w t).Chip := rfl
    have elen : (lineS l ds (ps ++ [p]) (strR F q (q + x)) w t).Len = (lineS l ds ps (strR F q (q + x)) w t).Len := rfl
    rw [echip, elen] at a2
    rcases a1 with ⟨b1, _⟩ | ⟨b1, b2⟩
    ·rw [b1] at c1; cases c1
    ·rcases a2 with ⟨d1, d2⟩ | ⟨d1, d2⟩
     ·omega
     ·rw [d1]; rfl
   rw [if_pos ⟨s2, c2⟩]
   show (jC l ds ps (strR F q (q + x)) w t).2.1 ≤ (jC l ds (ps ++ [p]) (strR F q (q + x)) w t).2.1
   rw [e1.2, e2.2]; exact em
  ·rw [if_neg (fun hh => c1 hh.2)] at hg; simp at hg
 ·rw [if_neg c] at hg; simp at hg
theorem qQZ (ps : List Product) (p : Product) {x : Int} (h : x ∈ allG ps) : x ∈ allG (ps ++ [p]) := by
 unfold allG at *
 rw [List.flatMap_append]
 exact List.mem_append_left _ h
theorem qQe {p : Product} (h : VE l ds ps F w t) (h' : VE l ds (ps ++ [p]) F w t) (hs : (F.X.B - F.X.A) / w.Pitch + 1 ≤ 31) : (bst (qX l ds ps F w t) 0).value ≤ (bst (qX l ds (ps ++ [p]) F w t) 0).value := by
 have v1 := EI h
 have v2 := EI h'
 have ln := v1.len
 have key := bst_le (a := qX l ds ps F w t) (s := (qX l ds (ps ++ [p]) F w t).Sizes) (g := (qX l ds (ps ++ [p]) F w t).Gain) v1 v2 ?_ (qX l ds ps F w t).Len.toNat 0 (by omega) (by omega)
 ·exact key.1
 ·intro i hi
  have hi' : i < (hts ps).length := hi
  have hm := jJ hi'
  rw [qIM h.pr] at hm
  have hm2 := (qIM h'.pr).2 (qQZ ps p hm)
  obtain ⟨i', hi2, e⟩ := List.getElem_of_mem hm2
  have e' : (hts (ps ++ [p])).getD i' default = (hts ps).getD i default := by rw [List.getD_eq_getElem?_getD, List.getElem?_eq_getElem hi2]; exact e
  refine ⟨i', hi2, e', ?_⟩
  intro q hq hg
  have sb := hts_b h.pr (jJ hi')
  have hq' : (q : Int) + (hts ps).getD i default ≤ hei F := by
   have : szAt (qX l ds ps F w t) i = (hts ps).getD i default := rfl
   have : (qX l ds ps F w t).Len = hei F := rfl
   omega
  have g1 : gnAt (qX l ds ps F w t) i q = (stG l ds ps F w t ((hts ps).getD i default) q).1 := by
   unfold gnAt qX
   simp only
   rw [zB _ hi', zB _ (by unfold nRow; omega)]
  have g2 : gnAt (more (qX l ds ps F w t) (qX l ds (ps ++ [p]) F w t).Sizes (qX l ds (ps ++ [p]) F w t).Gain) i' q = (stG l ds (ps ++ [p]) F w t ((hts ps).getD i default) q).1 := by
   show (((qX l ds (ps ++ [p]) F w t).Gain).getD i' default).getD q default = _
   unfold qX
   simp only
   rw [zB _ hi2, e', zB _ (by unfold nRow; omega)]
  rw [g1] at hg ⊢
  rw [g2]
  exact qQ9 h h' hs (by omega) hq' hg
end Go.SL.Saw

namespace Go.SL.Saw
def WO (W : Option Bool) (a1 : Law24_Given) (a2 : Product) (x17 : Bool) : Option Bool :=
 bif x17 then
  (W).bind fun v19 =>
  some v19
 else
  (jN a1).bind fun v21 =>
  (jN (Law24_Given.mk a1.Solid a1.Defects ((([] : List Product) ++ a1.Products) ++ ([a2] : List Product)) a1.Frame a1.Saw a1.Rates)).bind fun v23 =>
  bif v21.2.2 != 0 then
   (W).bind fun v26 =>
   wE v26
  else
   bif v23.2.2 != 0 then
    (W).bind fun v29 =>
    wE v29
   else
    bif decide (v23.2.1 ≥ v21.2.1) then
     (W).bind fun v32 =>
     wE v32
    else
     wE false
def WJ (W : Option Bool) (a1 : Law24_Given) (a2 : Product) (x6 : Bool) : Option Bool :=
 bif x6 then
  (W).bind fun v8 =>
  some v8
 else
  bif room (0 + a1.Products.length) 96 then
   bif room ((0 + a1.Products.length) + 1) 96 then
    (YB a1).bind fun v12 =>
    bif !v12 then
     WO W a1 a2 true
    else
     (YB (Law24_Given.mk a1.Solid a1.Defects ((([] : List Product) ++ a1.Products) ++ ([a2] : List Product)) a1.Frame a1.Saw a1.Rates)).bind fun v15 =>
     WO W a1 a2 (!v15)
   else none
  else none
def HB (W : Option Bool) (a1 : Law24_Given) (a2 : Product) : Option Bool :=
 bif decide (((a1.Products.length : Nat) : Int) > 3) then
  WJ W a1 a2 true
 else
  (NU a1).bind fun v4 =>
  WJ W a1 a2 (!v4)
theorem qGk (a1 : Law24_Given) (a2 : Product) : DU a1 a2 = HB QF a1 a2 := rfl
end Go.SL.Saw

namespace Go.SL.Saw
theorem qNQ {σ β : Type} (N : Nat) (L : Nat → σ → Int → Option β) (hN : N ≤ 1000000000)
  (h0 : ∀ n i s, i < N → (∃ b, L (n + 1) s (i : Int) = some b) ∨ ∃ s', L (n + 1) s (i : Int) = L n s' ((i + 1 : Nat) : Int))
  (h1 : ∀ n s, ∃ b, L (n + 1) s (N : Int) = some b) (s : σ) : ∃ b, L FUEL s 0 = some b := by
 have key : ∀ (k i n : Nat) (s : σ), i + k = N → k < n → ∃ b, L n s (i : Int) = some b := by
  intro k
  induction k with
  | zero =>
   intro i n s hi hn
   obtain ⟨n, rfl⟩ : ∃ m, n = m + 1 := ⟨n - 1, by omega⟩
   have : i = N := by omega
   subst this; exact h1 n s
  | succ k ih =>
   intro i n s hi hn
   obtain ⟨n, rfl⟩ : ∃ m, n = m + 1 := ⟨n - 1, by omega⟩
   rcases h0 n i s (by omega) with h | ⟨s', h⟩
   ·exact h
   ·rw [h]; exact ih (i + 1) n s' (by omega) (by omega)
 exact key N 0 FUEL s (by omega) (by rw [FUEL_eq]; omega)
end Go.SL.Saw

namespace Go.SL.Saw
theorem few_ex (l : List Product) : ∃ b, IT l = some b := by
 unfold IT
 by_cases h1 : ((l.length : Nat) : Int) > 20
 ·rw [decide_eq_true h1]; exact ⟨_, rfl⟩
 rw [decide_eq_false h1]
 obtain ⟨u, e⟩ := qNQ l.length (fun n (_ : Unit) x => QP l n x) (by omega) (fun n i s hi => by
   rw [QP, decide_eq_true (by omega), qL (by omega) (by omega)]
   unfold DJ
   rw [qR (by omega)]
   simp only [cond_true, Int.toNat_natCast]
   cases decide (((((l.getD i default).Name).size : Nat) : Int) > 100)
   ·cases decide (((((l.getD i default).Lengths).length : Nat) : Int) > 12)
    ·cases decide (((((l.getD i default).Prices).length : Nat) : Int) > 12)
     ·exact .inr ⟨(), rfl⟩
     ·exact .inl ⟨_, rfl⟩
    ·exact .inl ⟨_, rfl⟩
   ·exact .inl ⟨_, rfl⟩) (fun n s => by
   refine ⟨.inr (), ?_⟩
   rw [QP, decide_eq_false (by omega)]; rfl) ()
 rw [e]
 cases u with
 | inl v => exact ⟨v, rfl⟩
 | inr v => exact ⟨true, rfl⟩
theorem qQM (l : List qA) : ∃ b, NQ l = some b := by
 unfold NQ
 by_cases h1 : ((l.length : Nat) : Int) > 30
 ·rw [decide_eq_true h1]; exact ⟨_, rfl⟩
 rw [decide_eq_false h1]
 obtain ⟨u, e⟩ := qNQ l.length (fun n (_ : Unit) x => YH l n x) (by omega) (fun n i s hi => by
   rw [YH, decide_eq_true (by omega), qL (by omega) (by omega), qR (by omega)]
   simp only [cond_true, Int.toNat_natCast]
   cases decide ((((((l.getD i default).Sec).Rows).length : Nat) : Int) > 130)
   ·exact .inr ⟨(), rfl⟩
   ·exact .inl ⟨_, rfl⟩) (fun n s => by
   refine ⟨.inr (), ?_⟩
   rw [YH, decide_eq_false (by omega)]; rfl) ()
 rw [e]
 cases u with
 | inl v => exact ⟨v, rfl⟩
 | inr v => exact ⟨true, rfl⟩
theorem qJc (s : Span) (p : Int) : ∃ n, TC s p = some n ∧ (-600 ≤ s.A → s.B ≤ 600 → s.A ≤ s.B → 1 ≤ p → n = (s.B - s.A) / p + 1) := by
 unfold TC UA
 by_cases h1 : s.A < -600
 ·rw [decide_eq_true h1]; exact ⟨1, rfl, fun h => by omega⟩
 by_cases h2 : s.B > 600
 ·rw [decide_eq_false h1, decide_eq_true h2]; exact ⟨1, rfl, fun _ h => by omega⟩
 by_cases h3 : p < 1
 ·rw [decide_eq_false h1, decide_eq_false h2, decide_eq_true h3]; exact ⟨1, rfl, fun _ _ _ h => by omega⟩
 rw [decide_eq_false h1, decide_eq_false h2, decide_eq_false h3, nz_t (by omega)]
 refine ⟨_, rfl, fun a b c d => ?_⟩
 rw [qE (n := s.B - s.A) (by omega) (by omega), Int.tdiv_eq_ediv_of_nonneg (by omega)]
 have e1 : 0 ≤ (s.B - s.A) / p := Int.ediv_nonneg (by omega) (by omega)
 have e2 : (s.B - s.A) / p ≤ s.B - s.A := Int.ediv_le_self p (by omega)
 rw [qE (n := (s.B - s.A) / p) (by omega) (by omega), qE (by omega) (by omega)]
theorem qMK (a : Law24_Given) : ∃ b, YB a = some b := by
 have k2 : ∀ x, ∃ b, PX a x = some b := by
  intro x
  unfold PX
  cases x with
  | true => exact ⟨_, rfl⟩
  | false =>
   obtain ⟨n, e, _⟩ := qJc a.Frame.X a.Saw.Pitch
   obtain ⟨m, e', _⟩ := qJc a.Frame.Y a.Saw.Pitch
   rw [e, e']; exact ⟨_, rfl⟩
 have k1 : ∀ x, ∃ b, ZV a x = some b := by
  intro x
  unfold ZV
  cases x with
  | true => exact ⟨_, rfl⟩
  | false =>
   by_cases h : a.Saw.Step ≥ 1
   ·rw [decide_eq_true h, (LI a.Solid).1, nz_t (by omega)]
    exact k2 _
   ·rw [decide_eq_false h]; exact k2 _
 unfold YB
 obtain ⟨b1, e1⟩ := qQM a.Solid
 rw [e1]
 simp only [Option.bind_some]
 cases b1 with
 | false => exact k1 true
 | true =>
  simp only [Bool.not_true, cond_false]
  cases decide (((a.Defects.length : Nat) : Int) > 70) with
  | true => exact k1 true
  | false =>
   simp only [cond_false]
   obtain ⟨b2, e2⟩ := few_ex a.Products
   rw [e2]
   simp only [Option.bind_some]
   cases b2
   ·exact k1 true
   ·exact k1 (decide (((a.Products.length : Nat) : Int) > 4))
theorem qJ3 (a : Law24_Given) : jN a = some (⟨(XN a.Solid a.Defects a.Products a.Frame a.Saw a.Rates).1.Frame, (XN a.Solid a.Defects a.Products a.Frame a.Saw a.Rates).1.Nodes⟩, (XN a.Solid a.Defects a.Products a.Frame a.Saw a.Rates).2.1, (XN a.Solid a.Defects a.Products a.Frame a.Saw a.Rates).2.2) := by
 unfold jN; rw [qCr]; rfl
theorem qMI {l : List qA} {ds : List Defect} {ps : List Product} {F : Rect} {w : Saw} {t : Rates} (h : (XN l ds ps F w t).2.2 = 0) : VE l ds ps F w t ∧ (HD l ds ps F w t).length ≤ 127 ∧ XN l ds ps F w t = (⟨F, HD l ds ps F w t⟩, (bst (qX l ds ps F w t) 0).value + t.Chip * (volT l - wholeR l F), 0) := by
 unfold XN at h ⊢
 by_cases c : chkE l ds ps F w t = 0
 ·rw [if_pos c] at h ⊢
  by_cases c2 : (HD l ds ps F w t).length ≤ 127
  ·rw [if_pos c2]; exact ⟨YA.1 c, c2, rfl⟩
  ·rw [if_neg c2] at h; exact absurd h (by decide)
 ·rw [if_neg c] at h; exact absurd h c
theorem qIz (a : Law24_Given) (p : Product) : HB (some true) a p = some true := by
 have k3 : wE true = some true := rfl
 have kt : WJ (some true) a p true = some true := by unfold WJ; rw [cond_true, Option.bind_some]
 have kt2 : WO (some true) a p true = some true := by unfold WO; rw [cond_true, Option.bind_some]
 unfold HB
 by_cases h1 : ((a.Products.length : Nat) : Int) > 3
 ·rw [decide_eq_true h1, cond_true]; exact kt
 rw [decide_eq_false h1, cond_false]
 obtain ⟨n, en, hn⟩ := qJc a.Frame.X a.Saw.Pitch
 unfold NU
 rw [en]
 simp only [Option.bind_some]
 by_cases h2 : n ≤ 31
 ·rw [decide_eq_true h2]
  simp only [Bool.not_true]
  unfold WJ
  rw [cond_false, qV (by omega) (by omega), qV (by omega) (by omega)]
  simp only [cond_true]
  obtain ⟨b1, e1⟩ := qMK a
  rw [e1]
  simp only [Option.bind_some]
  cases b1 with
  | false => simp only [Bool.not_false, cond_true]; exact kt2
  | true =>
   simp only [Bool.not_true, cond_false]
   obtain ⟨b2, e2⟩ := qMK ⟨a.Solid, a.Defects, (([] : List Product) ++ a.Products) ++ [p], a.Frame, a.Saw, a.Rates⟩
   rw [e2]
   simp only [Option.bind_some]
   cases b2 with
   | false => simp only [Bool.not_false]; exact kt2
   | true =>
    unfold WO
    simp only [Bool.not_true, cond_false]
    rw [qJ3, qJ3]
    simp only [Option.bind_some, List.nil_append]
    by_cases c1 : (XN a.Solid a.Defects a.Products a.Frame a.Saw a.Rates).2.2 = 0
    ·have c1' : ((XN a.Solid a.Defects a.Products a.Frame a.Saw a.Rates).2.2 != 0) = false := by simpa using c1
     rw [c1', cond_false]
     by_cases c2 : (XN a.Solid a.Defects (a.Products ++ [p]) a.Frame a.Saw a.Rates).2.2 = 0
     ·have c2' : ((XN a.Solid a.Defects (a.Products ++ [p]) a.Frame a.Saw a.Rates).2.2 != 0) = false := by simpa using c2
      rw [c2', cond_false]
      obtain ⟨v1, _, r1⟩ := qMI c1
      obtain ⟨v2, _, r2⟩ := qMI c2
      have hr := v1.vr
      unfold VR at hr
      have hs := hn hr.1.1 hr.1.2.2 (by omega) v1.vw.pitch.1
      have hm := qQe v1 v2 (by omega)
      rw [r1, r2]
      rw [decide_eq_true (by simp only; omega), cond_true]
      exact k3
     ·have c2' : ((XN a.Solid a.Defects (a.Products ++ [p]) a.Frame a.Saw a.Rates).2.2 != 0) = true := by simpa using c2
      rw [c2', cond_true]; exact k3
    ·have c1' : ((XN a.Solid a.Defects a.Products a.Frame a.Saw a.Rates).2.2 != 0) = true := by simpa using c1
     rw [c1', cond_true]; exact k3
 ·rw [decide_eq_false h2]; simp only [Bool.not_false]; exact kt
end Go.SL.Saw

namespace Go.SL.Saw
def gS : List qA := [⟨3000, ⟨-10, List.replicate 20 ⟨-100, 100⟩⟩⟩]
def gP : List Product := [⟨⟨#[112, 108, 97, 110, 107]⟩, 40, 100, 50, 0, [2000], [70]⟩]
def gW : Saw := ⟨4, 5, 5, 500⟩
def g0 : Rates := ⟨0, 0, 0⟩
def gF (h : Int) : Rect := ⟨⟨-100, 10⟩, ⟨0, h⟩⟩
def gN : List Node := [⟨2, 5⟩, ⟨1, 0⟩, ⟨0, 0⟩]
def LS : Line := ⟨110, 4, 1, [105], [[70000000, -1, -1, -1, -1, 70000000]], List.replicate 110 0, List.replicate 110 0⟩
def LP (h n : Nat) : Line := ⟨h, 4, 1, [42, 105], [(List.range n).map (fun p => if p % 5 = 0 then 70000000 else -1), []], List.replicate h 0, List.replicate h 0⟩
theorem gain_k : (List.range 12).all (fun k => decide (gainS gS [] (gP.getD 0 default) ⟨⟨-100, 5⟩, ⟨5 * (k : Int), 5 * (k : Int) + 42⟩⟩ gW g0 = 70000000) && decide (gainS gS [] (gP.getD 0 default) ⟨⟨-95, 10⟩, ⟨5 * (k : Int), 5 * (k : Int) + 42⟩⟩ gW g0 = 70000000)) = true := by kernel_rfl
theorem qIX : sizes gP 42 = ([105], [0]) := by kernel_rfl
theorem qG7 : hts gP = [42, 105] := by kernel_rfl
theorem qN2 : chkE gS [] gP (gF 97) gW g0 = 0 := by
 have e : TL gS [] gP (gF 97) gW g0 = some 0 := by kernel_rfl
 rw [qA1] at e; exact Option.some.inj e
theorem qN1 : chkE gS [] gP (gF 96) gW g0 = 0 := by
 have e : TL gS [] gP (gF 96) gW g0 = some 0 := by kernel_rfl
 rw [qA1] at e; exact Option.some.inj e
end Go.SL.Saw

namespace Go.SL.Saw
theorem cut_S : QK LS = some ([⟨0, 0⟩], 70000000, 0) := by kernel_rfl
end Go.SL.Saw

namespace Go.SL.Saw
theorem cut_97 : QK (LP 97 56) = some ([⟨0, 0⟩, ⟨0, 55⟩], 140000000, 0) := by kernel_rfl
end Go.SL.Saw

namespace Go.SL.Saw
theorem cut_96 : QK (LP 96 55) = some ([⟨0, 0⟩], 70000000, 0) := by kernel_rfl
end Go.SL.Saw

namespace Go.SL.Saw
theorem strip_g (h : Int) (p : Nat) : strR (gF h) (p : Int) ((p : Int) + 42) = ⟨⟨-100, 10⟩, ⟨(p : Int), (p : Int) + 42⟩⟩ := by
 unfold strR gF
 simp only [Int.zero_add]
theorem qPO {k : Nat} (hk : k < 12) : lineS gS [] gP ⟨⟨-100, 10⟩, ⟨((5 * k : Nat) : Int), ((5 * k : Nat) : Int) + 42⟩⟩ gW g0 = LS := by
 have hz : (((5 * k : Nat) : Int) + 42) - ((5 * k : Nat) : Int) = 42 := by omega
 have gk := List.all_eq_true.1 gain_k k (List.mem_range.2 hk)
 rw [Bool.and_eq_true, decide_eq_true_eq, decide_eq_true_eq] at gk
 have ek : ((5 * k : Nat) : Int) = 5 * (k : Int) := by omega
 unfold lineS
 have hw : wid ⟨⟨-100, 10⟩, ⟨((5 * k : Nat) : Int), ((5 * k : Nat) : Int) + 42⟩⟩ = 110 := rfl
 simp only [hz, qIX, hw]
 have hg : TH gS [] gP ⟨⟨-100, 10⟩, ⟨((5 * k : Nat) : Int), ((5 * k : Nat) : Int) + 42⟩⟩ gW g0 42 = [[70000000, -1, -1, -1, -1, 70000000]] := by
  unfold TH
  rw [qIX]
  show [UJ gS [] (gP.getD 0 default) ⟨⟨-100, 10⟩, ⟨((5 * k : Nat) : Int), ((5 * k : Nat) : Int) + 42⟩⟩ gW g0 105] = _
  unfold UJ
  rw [hw]
  show [[WL _ _ _ _ _ _ _ 0, WL _ _ _ _ _ _ _ 1, WL _ _ _ _ _ _ _ 2, WL _ _ _ _ _ _ _ 3, WL _ _ _ _ _ _ _ 4, WL _ _ _ _ _ _ _ 5]] = _
  have a0 : WL gS [] (gP.getD 0 default) ⟨⟨-100, 10⟩, ⟨((5 * k : Nat) : Int), ((5 * k : Nat) : Int) + 42⟩⟩ gW g0 105 0 = 70000000 := by
   rw [ek]; exact gk.1
  have a5 : WL gS [] (gP.getD 0 default) ⟨⟨-100, 10⟩, ⟨((5 * k : Nat) : Int), ((5 * k : Nat) : Int) + 42⟩⟩ gW g0 105 5 = 70000000 := by
   rw [ek]; exact gk.2
  rw [a0, a5]
  rfl
 rw [hg]
 have hz2 : ∀ f : Nat → Int, (List.range (110 : Int).toNat).map (fun x => g0.Chip * f x) = List.replicate 110 0 := by
  intro f
  have : (fun x => g0.Chip * f x) = fun _ => (0 : Int) := by funext x; show 0 * f x = 0; rw [Int.zero_mul]
  rw [this, List.map_const']; rfl
 have hz3 : ∀ f : Nat → Int, (List.range (110 : Int).toNat).map (fun x => g0.Dust * f x) = List.replicate 110 0 := by
  intro f
  have : (fun x => g0.Dust * f x) = fun _ => (0 : Int) := by funext x; show 0 * f x = 0; rw [Int.zero_mul]
  rw [this, List.map_const']; rfl
 rw [hz2, hz3]
 rfl
theorem qIt : VE gS [] gP (gF 97) gW g0 := YA.1 qN2
theorem qLz : VE gS [] gP (gF 96) gW g0 := YA.1 qN1
theorem edge_g {h : Int} (hv : VE gS [] gP (gF h) gW g0) {k : Nat} (hk : k < 12) (hh : 5 * (k : Int) + 42 ≤ h) : jC gS [] gP (strR (gF h) ((5 * k : Nat) : Int) (((5 * k : Nat) : Int) + 42)) gW g0 = (gN, 70000000, 0) := by
 have ve := qF8 hv (p := ((5 * k : Nat) : Int)) (q := ((5 * k : Nat) : Int) + 42) (by omega) (by omega) (by unfold hei gF; simp only; omega)
 rw [strip_g] at ve ⊢
 unfold jC
 rw [if_pos (YA.2 ve), qPO hk]
 have vl := QI ve
 rw [qPO hk] at vl
 have cb := MM vl
 rw [cut_S] at cb
 have cb' := Prod.mk.inj (Option.some.inj cb)
 have c1 : wD LS = [⟨0, 0⟩] := cb'.1.symm
 have c2 : (bst LS 0).value = 70000000 := (Prod.mk.inj cb'.2).1.symm
 unfold qDH zE
 simp only
 have hz : (((5 * k : Nat) : Int) + 42) - ((5 * k : Nat) : Int) = 42 := by omega
 rw [hz, c1, c2]
 have e : rowN 2 LS.Kerf ⟨-100, 10⟩ (List.map (ptOf LS (-100) (bdN gP 42)) [⟨0, 0⟩]) = gN := by
  unfold bdN
  rw [qIX]
  rfl
 rw [e]
 rfl
theorem qKU {h : Int} (hv : VE gS [] gP (gF h) gW g0) {p : Nat} (hp : p < 56) (hh : (p : Int) + 42 ≤ h) : stG gS [] gP (gF h) gW g0 42 p = if p % 5 = 0 then (70000000, gN) else (-1, []) := by
 unfold stG
 by_cases c : p % 5 = 0
 ·obtain ⟨k, rfl⟩ : ∃ k, p = 5 * k := ⟨p / 5, by omega⟩
  have c' : ((5 * k : Nat) : Int) % gW.Pitch = 0 := by show ((5 * k : Nat) : Int) % 5 = 0; omega
  rw [if_pos c', if_pos c, edge_g hv (by omega) (by omega)]
  rw [if_pos ⟨rfl, rfl⟩]
 ·have c' : ¬ ((p : Nat) : Int) % gW.Pitch = 0 := by show ¬ ((p : Nat) : Int) % 5 = 0; omega
  rw [if_neg c', if_neg c]
theorem qNP {h n : Nat} (hn : n + 41 = h) (hn2 : n ≤ 56) (h0 : h ≤ 104) (hv : VE gS [] gP (gF h) gW g0) : qX gS [] gP (gF h) gW g0 = LP h n := by
 have hh : hei (gF (h : Int)) = (h : Int) := by unfold hei gF; simp
 unfold qX LP
 rw [hh, qG7]
 have r0 : nRow (gF h) 42 = n := by unfold nRow; rw [hh]; omega
 have r1 : nRow (gF h) 105 = 0 := by unfold nRow; rw [hh]; omega
 have hz2 : ∀ f : Nat → Int, (List.range ((h : Int)).toNat).map (fun x => g0.Chip * f x) = List.replicate h 0 := by
  intro f
  have : (fun x => g0.Chip * f x) = fun _ => (0 : Int) := by funext x; show 0 * f x = 0; rw [Int.zero_mul]
  rw [this, List.map_const', Int.toNat_natCast, List.length_range]
 have hz3 : ∀ f : Nat → Int, (List.range ((h : Int)).toNat).map (fun x => g0.Dust * f x) = List.replicate h 0 := by
  intro f
  have : (fun x => g0.Dust * f x) = fun _ => (0 : Int) := by funext x; show 0 * f x = 0; rw [Int.zero_mul]
  rw [this, List.map_const', Int.toNat_natCast, List.length_range]
 rw [hz2, hz3]
 have hg : (List.range ([42, 105] : List Int).length).map (fun j => (List.range (nRow (gF h) (([42, 105] : List Int).getD j default))).map (fun p => (stG gS [] gP (gF h) gW g0 (([42, 105] : List Int).getD j default) p).1)) = [(List.range n).map (fun p => if p % 5 = 0 then 70000000 else -1), []] := by
  show [(List.range (nRow (gF h) 42)).map (fun p => (stG gS [] gP (gF h) gW g0 42 p).1), (List.range (nRow (gF h) 105)).map (fun p => (stG gS [] gP (gF h) gW g0 105 p).1)] = _
  rw [r0, r1]
  congr 1
  apply List.map_congr_left
  intro p hp
  have hp' := List.mem_range.1 hp
  rw [qKU hv (by omega) (by omega)]
  split <;> rfl
 rw [hg]
 rfl
theorem qQo : RM gS [] gP (gF 97) gW g0 = some (⟨gF 97, [⟨3, 42⟩, ⟨2, 5⟩, ⟨1, 0⟩, ⟨0, 0⟩, ⟨3, 51⟩, ⟨0, 0⟩, ⟨2, 5⟩, ⟨1, 0⟩, ⟨0, 0⟩]⟩, 140000000, 0) := by
 have el := qNP (h := 97) (n := 56) (by omega) (by omega) (by omega) qIt
 have el' : qX gS [] gP (gF 97) gW g0 = LP 97 56 := el
 have vl := EI qIt
 rw [el'] at vl
 have cb := MM vl
 rw [cut_97] at cb
 have cb' := Prod.mk.inj (Option.some.inj cb)
 have c1 : wD (LP 97 56) = [⟨0, 0⟩, ⟨0, 55⟩] := cb'.1.symm
 have c2 : (bst (LP 97 56) 0).value = 140000000 := (Prod.mk.inj cb'.2).1.symm
 have n0 : stN gS [] gP (gF 97) gW g0 ⟨0, 0⟩ = gN := by
  unfold stN
  rw [qG7]
  show (stG gS [] gP (gF 97) gW g0 42 0).2 = _
  rw [qKU qIt (by omega) (by omega)]; rfl
 have n1 : stN gS [] gP (gF 97) gW g0 ⟨0, 55⟩ = gN := by
  unfold stN
  rw [qG7]
  show (stG gS [] gP (gF 97) gW g0 42 55).2 = _
  rw [qKU qIt (by omega) (by omega)]; rfl
 rw [qCr]
 unfold XN
 rw [if_pos qN2]
 have en : HD gS [] gP (gF 97) gW g0 = [⟨3, 42⟩, ⟨2, 5⟩, ⟨1, 0⟩, ⟨0, 0⟩, ⟨3, 51⟩, ⟨0, 0⟩, ⟨2, 5⟩, ⟨1, 0⟩, ⟨0, 0⟩] := by
  unfold HD RC
  rw [el', c1]
  simp only [List.map_cons, List.map_nil, ptOf, n0, n1]
  rfl
 rw [en, el', c2]
 have e0 : g0.Chip * (volT gS - wholeR gS (gF 97)) = 0 := by show 0 * _ = (0 : Int); rw [Int.zero_mul]
 rw [e0]
 rfl
theorem qQA : ∃ p, RM gS [] gP (gF 96) gW g0 = some (p, 70000000, 0) := by
 have el := qNP (h := 96) (n := 55) (by omega) (by omega) (by omega) qLz
 have el' : qX gS [] gP (gF 96) gW g0 = LP 96 55 := el
 have vl := EI qLz
 rw [el'] at vl
 have cb := MM vl
 rw [cut_96] at cb
 have cb' := Prod.mk.inj (Option.some.inj cb)
 have c1 : wD (LP 96 55) = [⟨0, 0⟩] := cb'.1.symm
 have c2 : (bst (LP 96 55) 0).value = 70000000 := (Prod.mk.inj cb'.2).1.symm
 have n0 : stN gS [] gP (gF 96) gW g0 ⟨0, 0⟩ = gN := by
  unfold stN
  rw [qG7]
  show (stG gS [] gP (gF 96) gW g0 42 0).2 = _
  rw [qKU qLz (by omega) (by omega)]; rfl
 rw [qCr]
 unfold XN
 rw [if_pos qN1]
 have en : HD gS [] gP (gF 96) gW g0 = [⟨3, 42⟩, ⟨2, 5⟩, ⟨1, 0⟩, ⟨0, 0⟩, ⟨0, 0⟩] := by
  unfold HD RC
  rw [el', c1]
  simp only [List.map_cons, List.map_nil, ptOf, n0]
  rfl
 rw [en, el', c2]
 have e0 : g0.Chip * (volT gS - wholeR gS (gF 96)) = 0 := by show 0 * _ = (0 : Int); rw [Int.zero_mul]
 rw [e0]
 exact ⟨_, rfl⟩
theorem qLk (h : Int) : YT h = some ⟨gS, [], gP, gF h, gW, g0⟩ := by
 unfold YT
 have e : VJ FUEL 0 [] = some (List.replicate 20 ⟨-100, 100⟩) := by kernel_rfl
 rw [e]
 rfl
theorem mem_g : NT ⟨gF 97, [⟨3, 42⟩, ⟨2, 5⟩, ⟨1, 0⟩, ⟨0, 0⟩, ⟨3, 51⟩, ⟨0, 0⟩, ⟨2, 5⟩, ⟨1, 0⟩, ⟨0, 0⟩]⟩ gP gW = some true := by kernel_rfl
theorem frame_g : MB gS = some ⟨⟨-100, 100⟩, ⟨-100, 100⟩⟩ := by kernel_rfl
theorem qN8 (g : Law24_Given) (r : Pattern × Int × Int) (h : RM g.Solid g.Defects g.Products g.Frame g.Saw g.Rates = some r) : jN g = some (⟨r.1.Frame, r.1.Nodes⟩, r.2.1, r.2.2) := by
 unfold jN; rw [h]; rfl
def awB (fs : Int → Option Law24_Given) (fb : Law24_Given → Option (Pattern × Int × Int)) (fh : List Product → Option (List Int)) (ff : List qA → Option Rect) (fm : Pattern → List Product → Saw → Option Bool) : Option Bool :=
 (fs 97).bind fun v1 =>
 (fb (Law24_Given.mk v1.Solid v1.Defects v1.Products v1.Frame v1.Saw v1.Rates)).bind fun v3 =>
 (fs 96).bind fun v5 =>
 (fb (Law24_Given.mk v5.Solid v5.Defects v5.Products v5.Frame v5.Saw v5.Rates)).bind fun v7 =>
 (fh v1.Products).bind fun v9 =>
 (ff v1.Solid).bind fun v11 =>
 bif v3.2.2 == 0 then
  bif v3.2.1 == 140000000 then
   bif v7.2.2 == 0 then
    bif v7.2.1 == 70000000 then
     bif ((v9.length : Nat) : Int) == 2 then
      bif inb 0 v9.length then
       bif (v9.getD ((0 : Int).toNat) default) == 42 then
        bif inb 1 v9.length then
         bif (v9.getD ((1 : Int).toNat) default) == 105 then
          bif (((v11.X.A == (-100)) && ((v11.X.B == 100) && true)) && (((v11.Y.A == (-100)) && ((v11.Y.B == 100) && true)) && true)) then
           bif ((v3.1.Nodes.length : Nat) : Int) == 9 then
            bif inb 0 v3.1.Nodes.length then
             bif ((((v3.1.Nodes.getD ((0 : Int).toNat) default).Kind) == 3) && ((((v3.1.Nodes.getD ((0 : Int).toNat) default).At) == 42) && true)) then
              (fm (Pattern.mk v3.1.Frame v3.1.Nodes) v1.Products v1.Saw).bind fun v26 =>
              qS v26
             else
              qS false
            else none
           else
            qS false
          else
           qS false
         else
          qS false
        else none
       else
        qS false
      else none
     else
      qS false
    else
     qS false
   else
    qS false
  else
   qS false
 else
  qS false
theorem qQJ {fs : Int → Option Law24_Given} {fb : Law24_Given → Option (Pattern × Int × Int)} {fh : List Product → Option (List Int)} {ff : List qA → Option Rect} {fm : Pattern → List Product → Saw → Option Bool} (g g' : Law24_Given) (p p' : Pattern) (s1 : fs 97 = some g) (s2 : fs 96 = some g') (b1 : fb g = some (p, 140000000, 0)) (b2 : fb g' = some (p', 70000000, 0))
  (hh : fh g.Products = some [42, 105]) (hf : ff g.Solid = some ⟨⟨-100, 100⟩, ⟨-100, 100⟩⟩) (hm : fm p g.Products g.Saw = some true) (hl : p.Nodes.length = 9) (hn : p.Nodes.getD 0 default = ⟨3, 42⟩) : awB fs fb fh ff fm = some true := by
 unfold awB
 rw [s1]
 simp only [Option.bind_some]
 rw [show (Law24_Given.mk g.Solid g.Defects g.Products g.Frame g.Saw g.Rates) = g from rfl, b1]
 simp only [Option.bind_some]
 rw [s2]
 simp only [Option.bind_some]
 rw [show (Law24_Given.mk g'.Solid g'.Defects g'.Products g'.Frame g'.Saw g'.Rates) = g' from rfl, b2]
 simp only [Option.bind_some]
 rw [hh]
 simp only [Option.bind_some]
 rw [hf]
 simp only [Option.bind_some, hl]
 rw [show ((0 : Int).toNat) = 0 from rfl, hn, show (Pattern.mk p.Frame p.Nodes) = p from rfl, hm]
 rfl
theorem awake_B : QF = awB YT jN WN MB NT := rfl
theorem qMw : QF = some true := by
 obtain ⟨p, e96⟩ := qQA
 exact awake_B.trans (qQJ _ _ ⟨gF 97, [⟨3, 42⟩, ⟨2, 5⟩, ⟨1, 0⟩, ⟨0, 0⟩, ⟨3, 51⟩, ⟨0, 0⟩, ⟨2, 5⟩, ⟨1, 0⟩, ⟨0, 0⟩]⟩ ⟨p.Frame, p.Nodes⟩ (qLk 97) (qLk 96) (qN8 ⟨gS, [], gP, gF 97, gW, g0⟩ _ qQo) (qN8 ⟨gS, [], gP, gF 96, gW, g0⟩ _ e96) ((qIa gP).trans (congrArg some qG7)) frame_g mem_g rfl rfl)
end Go.SL.Saw
