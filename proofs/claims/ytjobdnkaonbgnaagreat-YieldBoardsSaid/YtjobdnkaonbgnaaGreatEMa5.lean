/- Edge's plain mathematics over the reference, part 3: checks, volumes. -/
import Derived.Test.YtjobdnkaonbgnaaGreatEMa4
set_option linter.unusedVariables false
set_option linter.unusedSimpArgs false
namespace Go.SL
namespace Saw
theorem qGw (n a b : Int) : jY n a b = some (decide (a ≤ n ∧ n ≤ b)) := by
 unfold jY LR
 by_cases h1 : n ≥ a
 ·rw [decide_eq_true h1]
  by_cases h2 : n ≤ b
  ·rw [decide_eq_true h2, decide_eq_true ⟨h1, h2⟩]; rfl
  ·rw [decide_eq_false h2, decide_eq_false (fun h => h2 h.2)]; rfl
 ·rw [decide_eq_false h1, decide_eq_false (show ¬ (a ≤ n ∧ n ≤ b) from fun h => h1 h.1)]; rfl
theorem qO4 (s : Saw) (r : Rates) : LL s r = some (IH s r) := by
 unfold LL JV PR
 simp only [qGw, Option.bind_some]
 have no : ¬ VW s r → IH s r = 9 := fun h => by unfold IH; rw [if_neg h]
 by_cases c1' : ¬ (0 ≤ s.Kerf ∧ s.Kerf ≤ 20)
 ·rw [decide_eq_false c1', no (fun h => c1' h.kerf)]; rfl
 have c1 : 0 ≤ s.Kerf ∧ s.Kerf ≤ 20 := Decidable.not_not.1 c1'
 by_cases c2' : ¬ (0 ≤ s.Trim ∧ s.Trim ≤ 20)
 ·rw [decide_eq_true c1, decide_eq_false c2', no (fun h => c2' h.trim)]; rfl
 have c2 : 0 ≤ s.Trim ∧ s.Trim ≤ 20 := Decidable.not_not.1 c2'
 by_cases c3' : ¬ (1 ≤ s.Pitch ∧ s.Pitch ≤ 2000)
 ·rw [decide_eq_true c1, decide_eq_true c2, decide_eq_false c3', no (fun h => c3' h.pitch)]; rfl
 have c3 : 1 ≤ s.Pitch ∧ s.Pitch ≤ 2000 := Decidable.not_not.1 c3'
 by_cases c4' : ¬ (1 ≤ s.Step ∧ s.Step ≤ 20000)
 ·rw [decide_eq_true c1, decide_eq_true c2, decide_eq_true c3, decide_eq_false c4', no (fun h => c4' h.step)]; rfl
 have c4 : 1 ≤ s.Step ∧ s.Step ≤ 20000 := Decidable.not_not.1 c4'
 by_cases c5' : ¬ (0 ≤ r.Chip ∧ r.Chip ≤ 1000)
 ·rw [decide_eq_true c1, decide_eq_true c2, decide_eq_true c3, decide_eq_true c4, decide_eq_false c5', no (fun h => c5' h.chip)]; rfl
 have c5 : 0 ≤ r.Chip ∧ r.Chip ≤ 1000 := Decidable.not_not.1 c5'
 by_cases c6' : ¬ (0 ≤ r.Dust ∧ r.Dust ≤ 1000)
 ·rw [decide_eq_true c1, decide_eq_true c2, decide_eq_true c3, decide_eq_true c4, decide_eq_true c5, decide_eq_false c6', no (fun h => c6' h.dust)]; rfl
 have c6 : 0 ≤ r.Dust ∧ r.Dust ≤ 1000 := Decidable.not_not.1 c6'
 by_cases c7' : ¬ (0 ≤ r.Fine ∧ r.Fine ≤ 1000000)
 ·rw [decide_eq_true c1, decide_eq_true c2, decide_eq_true c3, decide_eq_true c4, decide_eq_true c5, decide_eq_true c6, decide_eq_false c7', no (fun h => c7' h.fine)]; rfl
 have c7 : 0 ≤ r.Fine ∧ r.Fine ≤ 1000000 := Decidable.not_not.1 c7'
 rw [decide_eq_true c1, decide_eq_true c2, decide_eq_true c3, decide_eq_true c4, decide_eq_true c5, decide_eq_true c6, decide_eq_true c7, (qAz s r).2 ⟨c1, c2, c3, c4, c5, c6, c7⟩]; rfl
theorem qJP (b : Box) : UV b = some (empS b.X || (empS b.Y || empS b.Z)) := by
 unfold UV PT empS
 show (bif decide (b.X.B ≤ b.X.A) then _ else bif decide (b.Y.B ≤ b.Y.A) then _ else some (decide (b.Z.B ≤ b.Z.A))) = _
 cases decide (b.X.B ≤ b.X.A) <;> cases decide (b.Y.B ≤ b.Y.A) <;> rfl
theorem qLw {s : Span} (h : empS s = false) (a b : Int) : MB s a b = some (insS s a b) := by
 have h' : ¬ s.B ≤ s.A := of_decide_eq_false h
 unfold MB IJ insS
 by_cases c1 : a ≤ s.A
 ·rw [decide_eq_true c1]
  simp only [cond_true]
  congr 1
  rw [decide_eq_decide]; omega
 ·rw [decide_eq_false c1, decide_eq_false (show ¬ ((a ≤ s.A ∧ a ≤ s.B) ∧ (s.A ≤ b ∧ s.B ≤ b)) from fun q => c1 q.1.1)]; rfl
theorem qNS {b : Box} (h : (empS b.X || (empS b.Y || empS b.Z)) = false) : GZ b = some (insS b.X (-600) 600 && (insS b.Y (-600) 600 && insS b.Z 0 20000)) := by
 have h1 : empS b.X = false := by cases e : empS b.X with | false => rfl | true => rw [e] at h; cases h
 have h2 : empS b.Y = false := by cases e : empS b.Y with | false => rfl | true => rw [h1, e] at h; cases h
 have h3 : empS b.Z = false := by cases e : empS b.Z with | false => rfl | true => rw [h1, h2, e] at h; cases h
 unfold GZ KO
 simp only [qLw h1, qLw h2, qLw h3, Option.bind_some]
 cases insS b.X (-600) 600 <;> cases insS b.Y (-600) 600 <;> rfl
theorem qJD (l : List Defect) : VC l = some (VT l) := by
 unfold VC VT
 by_cases h : 64 < l.length
 ·rw [if_pos h, decide_eq_true (by omega)]; rfl
 rw [if_neg h, decide_eq_false (by omega)]
 have L : jZ l FUEL 0 = some (findE badD l) := by
  refine RX l (jZ l) badD (by omega) (fun n x hx => ?_) (fun n => ?_)
  ·rw [jZ, decide_eq_true (by omega), zA (by omega) (by omega)]
   simp only [cond_true, Int.toNat_natCast, zF (show x < 4611686018427387904 by omega), BU, qJP, Option.bind_some]
   rw [zA (by omega) (by omega)]
   unfold badD chkD
   by_cases h1 : (l.getD x default).Kind < 1
   ·rw [decide_eq_true h1, if_pos (.inl h1)]; rfl
   rw [decide_eq_false h1]
   by_cases h2 : (l.getD x default).Kind > 6
   ·rw [decide_eq_true h2, if_pos (.inr h2)]; rfl
   rw [decide_eq_false h2, if_neg (by omega)]
   simp only [cond_false, cond_true]
   cases he : (empS (l.getD x default).Box.X || (empS (l.getD x default).Box.Y || empS (l.getD x default).Box.Z)) with
   | true => rfl
   | false =>
    rw [qNS he]
    cases (insS (l.getD x default).Box.X (-600) 600 && (insS (l.getD x default).Box.Y (-600) 600 && insS (l.getD x default).Box.Z 0 20000)) <;> rfl
  ·rw [jZ, decide_eq_false (by omega)]; rfl
 rw [L]
 simp only [cond_false, Option.bind_some]
 cases findE badD l <;> rfl
/-! ### Volumes -/
theorem qO0 (s : qK) : FP s = some (LY s) := by
 unfold FP LY
 rw [(qDP s).2]
 simp only [Option.bind_some]
 by_cases h : WP s = 0
 ·rw [h]; rfl
 ·have : (WP s != 0) = true := by simpa using h
  rw [this, if_neg h]; rfl
theorem qJG {x : Span} (y : Span) (h : rngS x = true) : PV x y = some (ml x y) := by
 have b := mx_b (y := y) h
 have a1 := PM x.A y.A
 have a2 := imin_or x.B y.B
 unfold PV GJ JP
 simp only [Option.bind_some]
 unfold ml lenS empS mxS
 simp only
 by_cases c : imin x.B y.B ≤ imax x.A y.A
 ·rw [decide_eq_true c]
  cases decide (y.A ≥ y.B) <;> simp [c]
 ·rw [decide_eq_false c, decide_eq_false (show ¬ y.A ≥ y.B by omega)]
  rw [AZ] at h
  simp only [cond_false]
  rw [qP (by omega) (by omega)]
theorem rhgt_eq {r : Int} (h1 : -60 ≤ r) (h2 : r < 60) : UE r = some (hgt r) := by
 unfold UE hgt
 rw [qP (n := r + 1) (by omega) (by omega), qP (by omega) (by omega), qP (by omega) (by omega)]
theorem qOr (s : qK) (R : Rect) : DB s R = some (jO (LY s) R.X R.Y) := by
 have h := qMM s
 unfold DB
 rw [qO0 s]
 simp only [Option.bind_some]
 generalize LY s = t at *
 have b := h.len
 have b1 := h.low
 have b2 := h.high
 have pb : ∀ x, x < t.Rows.length → 0 ≤ ml (t.Rows.getD x default) R.X * ml (hgt (t.Low + x)) R.Y ∧ ml (t.Rows.getD x default) R.X * ml (hgt (t.Low + x)) R.Y ≤ 1440000 := fun x hx => by
  have m1 := ml_b R.X (h.rng _ (KF hx))
  have m2 := ml_b R.Y (qFp (r := t.Low + x) (by omega) (by omega))
  have := qEO (a := ml (t.Rows.getD x default) R.X) (b := ml (hgt (t.Low + x)) R.Y) (m := 1200) (n := 1200) (by omega) (by omega) (by omega) (by omega) (by omega) (by omega)
  exact ⟨Int.mul_nonneg m1.1 m2.1, by omega⟩
 have k2 := qCm t.Rows (fun n (a : Int) x => WW R t n a x) (fun x => (x : Int)) (fun x a s => s + ml a R.X * ml (hgt (t.Low + x)) R.Y) (fun s => s) (fun x s => 0 ≤ s ∧ s ≤ 1440000 * (x : Int)) (by omega)
  (fun n x a hx hi => by
   have p := pb x hx
   refine ⟨?_, by omega⟩
   rw [WW, decide_eq_true (show (x : Int) < _ by omega), zA (by omega) (by omega), zF (by omega), qP (n := t.Low + x) (by omega) (by omega), rhgt_eq (r := t.Low + x) (by omega) (by omega)]
   simp only [cond_true, Int.toNat_natCast, Option.bind_some]
   rw [qJG R.X (h.rng _ (KF hx)), qJG R.Y (qFp (r := t.Low + x) (by omega) (by omega))]
   simp only [Option.bind_some]
   rw [qP (n := _ * _) (by omega) (by omega), qP (by omega) (by omega)])
  (fun n a _ => by rw [WW]; simp) (i := 0) rfl 0 (by omega)
 rw [qEX (fun x a => ml a R.X * ml (hgt (t.Low + x)) R.Y)] at k2
 have e := qL6 h (fun r a => ml a R.X * ml (hgt r) R.Y) (fun r => by
  have : ml ⟨0, 0⟩ R.X = 0 := by have := ml_b (x := ⟨0, 0⟩) R.X rfl; have e : lenS ⟨0, 0⟩ = 0 := rfl; omega
  rw [this]; simp)
 simp only [Nat.zero_add, Int.zero_add] at k2
 rw [e] at k2
 rw [k2.1]; rfl
theorem qOJ {l : List Slice} (h : VSol l) {i : Nat} (hi : i < l.length) (z : Span) : HY ⟨imax z.A 0, imin z.B 20000⟩ (zH l i) (l.getD i default).Len = some (ml (ext l i) z) := by
 have b := h.bd (i := i) (by omega)
 have b' := h.bd (i := i + 1) (by omega)
 have at' := (h.at hi).2.2
 rw [wY] at b'
 unfold HY
 rw [qP (n := zH l i + (l.getD i default).Len) (by omega) (by omega), qML]
 rw [show (ext l i).A = zH l i from rfl, show (ext l i).B = zH l i + (l.getD i default).Len from wY l i]
 have a1 := PM z.A 0
 have a2 := imin_or z.B 20000
 have a3 := PM (imax z.A 0) (zH l i)
 have a4 := imin_or (imin z.B 20000) (zH l i + (l.getD i default).Len)
 have a5 := PM (zH l i) z.A
 have a6 := imin_or (zH l i + (l.getD i default).Len) z.B
 simp only
 by_cases c : imax (imax z.A 0) (zH l i) ≥ imin (imin z.B 20000) (zH l i + (l.getD i default).Len)
 ·rw [decide_eq_true c, if_pos (by omega)]; rfl
 ·rw [decide_eq_false c, if_neg (by omega), qP (by omega) (by omega)]
  simp only [cond_false]
  congr 1
  omega
theorem qJ0 (p : Product) (n : Int) (h : p.Lengths.length ≤ 1000000) : UY p n = some (PI p n) := by
 unfold UY PI
 have L : ZV p n FUEL ((0 : Nat) : Int) = some (findN (priceAt p n) 0 (p.Lengths.length - 0)) := by
  refine QO p.Lengths.length (ZV p n) _ 0 (by omega) (by omega) (fun m i hi hN => ?_) (fun m => ?_)
  ·rw [ZV, decide_eq_true (by omega), zA (by omega) (by omega)]
   simp only [cond_true, Int.toNat_natCast, zF (show i < 4611686018427387904 by omega), priceAt]
   by_cases c : p.Lengths.getD i default ≠ n
   ·rw [if_pos c, show (p.Lengths.getD i default == n) = false by rw [beq_eq_false_iff_ne]; exact c]; rfl
   rw [if_neg c, show (p.Lengths.getD i default == n) = true by rw [beq_iff_eq]; omega]
   by_cases c2 : p.Prices.length ≤ i
   ·rw [if_pos c2, decide_eq_true (show (i : Int) ≥ ((p.Prices.length : Nat) : Int) by omega)]; rfl
   ·rw [if_neg c2, decide_eq_false (show ¬ (i : Int) ≥ ((p.Prices.length : Nat) : Int) by omega), zA (by omega) (by omega)]; rfl
  ·rw [ZV, decide_eq_false (by omega)]; rfl
 rw [show ((0 : Nat) : Int) = 0 from rfl, Nat.sub_zero] at L
 rw [L]
 simp only [Option.bind_some]
 cases findN (priceAt p n) 0 p.Lengths.length <;> rfl
theorem qQm (x y : Span) : TJ x y = some (nrm (mxS x y)) := by
 unfold TJ nrm mxS empS
 simp only
 show (bif decide (imin x.B y.B ≤ imax x.A y.A) then _ else _) = _
 cases decide (imin x.B y.B ≤ imax x.A y.A) <;> rfl
theorem qGf (d : Defect) (b : Box) : XR d b = some (tch d.Box b) := by
 unfold XR qAx tch
 simp only [qQm, Option.bind_some, qJP, qJb]
/-! ### Defects near a rectangle -/
def wdL (b : Box) (fine : Int) : List Defect → Int → (Int × Bool) ⊕ Int
 | [], v => .inr v
 | d :: ds, v => bif tch d.Box b then (bif d.Kind == 3 then .inl (0, false) else wdL b fine ds (v - fine)) else wdL b fine ds v
theorem qFq (ds : List Defect) (b : Box) (fine : Int) : ∀ (k x : Nat) (v : Int), x + k = ds.length → runN (dstep ds b fine) x k v = wdL b fine (ds.drop x) v
 | 0, x, v, h => by rw [List.drop_eq_nil_of_le (by omega)]; rfl
 | k + 1, x, v, h => by
  rw [OE ds x (by omega)]
  unfold runN wdL dstep
  cases tch (ds.getD x default).Box b with
  | false => exact qFq ds b fine k (x + 1) v (by omega)
  | true => cases (ds.getD x default).Kind == 3 with
   | true => rfl
   | false => exact qFq ds b fine k (x + 1) (v - fine) (by omega)
theorem qM4 (ds : List Defect) (b : Box) : near ds b = ds.filter (fun d => tch d.Box b) := by
 unfold near
 have key : ∀ k, k ≤ ds.length → yO (fun i t => bif tch (ds.getD i default).Box b then t ++ [ds.getD i default] else t) 0 k ([] : List Defect) = (ds.take k).filter (fun d => tch d.Box b) := by
  intro k
  induction k with
  | zero => intro _; rfl
  | succ k ih =>
   intro hk
   have tk : ds.take (k + 1) = ds.take k ++ [ds.getD k default] := by rw [List.take_add_one, List.getD_eq_getElem?_getD, List.getElem?_eq_getElem (by omega)]; rfl
   rw [TH, ih (by omega), Nat.zero_add, tk, List.filter_append]
   generalize ds.getD k default = d
   cases h : tch d.Box b <;> simp [List.filter, h]
 rw [key _ (Nat.le_refl _), List.take_length]
theorem qAA {b W : Box} (fine : Int) (h : ∀ d : Box, tch d b = true → tch d W = true) : ∀ (ds : List Defect) (v : Int), wdL b fine (ds.filter (fun d => tch d.Box W)) v = wdL b fine ds v
 | [], v => rfl
 | d :: ds, v => by
  cases hW : tch d.Box W with
  | true =>
   rw [List.filter_cons, hW]
   simp only [if_true]
   unfold wdL
   rw [qAA fine h ds, qAA fine h ds]
  | false =>
   have hb : tch d.Box b = false := by cases e : tch d.Box b with | false => rfl | true => rw [h _ e] at hW; cases hW
   rw [List.filter_cons, hW]
   simp only [Bool.false_eq_true, if_false]
   rw [qAA fine h ds]
   conv => rhs; unfold wdL
   rw [hb]; rfl
theorem qF8 {ds : List Defect} {b W : Box} (fine v : Int) (h : ∀ d : Box, tch d b = true → tch d W = true) : BI (near ds W) b fine v = BI ds b fine v := by
 unfold BI
 rw [qFq _ _ _ _ 0 _ (by omega), qFq _ _ _ _ 0 _ (by omega), List.drop_zero, List.drop_zero, qM4, qAA fine h]
theorem qNN {x y s : Span} {n : Int} (h1 : 0 ≤ s.A) (h2 : s.B ≤ n) (d : Box) : tch d ⟨x, y, s⟩ = true → tch d ⟨x, y, ⟨0, n⟩⟩ = true := by
 unfold tch
 simp only
 have e : empS (mxS d.Z s) = false → empS (mxS d.Z ⟨0, n⟩) = false := fun h => by
  have h' : ¬ imin d.Z.B s.B ≤ imax d.Z.A s.A := of_decide_eq_false h
  have a1 := imin_or d.Z.B s.B
  have a2 := PM d.Z.A s.A
  have a3 := imin_or d.Z.B n
  have a4 := PM d.Z.A 0
  refine decide_eq_false (show ¬ imin d.Z.B n ≤ imax d.Z.A 0 from ?_)
  omega
 cases empS (mxS d.X x) <;> cases empS (mxS d.Y y) <;> cases hz : empS (mxS d.Z s) <;> simp
 exact e hz
def bad3 (ds : List Defect) (b : Box) (i : Nat) : Option Bool := bif (ds.getD i default).Kind == 3 && tch (ds.getD i default).Box b then some false else none
def qCu (ds : List Defect) (b : Box) (fine : Int) (i : Nat) (v : Int) : Int := bif tch (ds.getD i default).Box b then v - fine else v
theorem qCe (ds : List Defect) (b : Box) (fine : Int) : ∀ (k x : Nat) (v : Int), runN (dstep ds b fine) x k v = match findN (bad3 ds b) x k with | .inl _ => .inl (0, false) | .inr _ => .inr (yO (qCu ds b fine) x k v)
 | 0, x, v => rfl
 | k + 1, x, v => by
  unfold runN findN yO
  cases h1 : tch (ds.getD x default).Box b with
  | false =>
   have e1 : dstep ds b fine x v = .inr v := by unfold dstep; rw [h1]; rfl
   have e2 : bad3 ds b x = none := by unfold bad3; rw [h1, Bool.and_false]; rfl
   have e3 : qCu ds b fine x v = v := by unfold qCu; rw [h1]; rfl
   rw [e1, e2, e3]
   exact qCe ds b fine k (x + 1) v
  | true => cases h2 : (ds.getD x default).Kind == 3 with
   | true =>
    have e1 : dstep ds b fine x v = .inl (0, false) := by unfold dstep; rw [h1, h2]; rfl
    have e2 : bad3 ds b x = some false := by unfold bad3; rw [h1, h2]; rfl
    rw [e1, e2]
   | false =>
    have e1 : dstep ds b fine x v = .inr (v - fine) := by unfold dstep; rw [h1, h2]; rfl
    have e2 : bad3 ds b x = none := by unfold bad3; rw [h1, h2]; rfl
    have e3 : qCu ds b fine x v = v - fine := by unfold qCu; rw [h1]; rfl
    rw [e1, e2, e3]
    exact qCe ds b fine k (x + 1) (v - fine)
theorem qOl (ds : List Defect) (b : Box) : ∀ (k x : Nat) (e : Bool), findN (bad3 ds b) x k = .inl e → e = false := by
 intro k x e h
 obtain ⟨i, _, _, c, _⟩ := WF h
 unfold bad3 at c
 cases hc : (ds.getD i default).Kind == 3 && tch (ds.getD i default).Box b with
 | true => rw [hc] at c; cases c; rfl
 | false => rw [hc] at c; cases c
/-! ### Wane -/
theorem hit_ml {l : List Slice} (h : VSol l) {i : Nat} (hi : i < l.length) {s : Span} (hs : s.A < s.B) : decide (ml (ext l i) s > 0) = hitZ (ext l i) s := by
 have at' := (h.at hi).2.2
 have e2 : (ext l i).B = zH l i + (l.getD i default).Len := wY l i
 have e1 : (ext l i).A = zH l i := rfl
 unfold hitZ
 rw [qML, e1, e2]
 have a1 := imin_or (zH l i + (l.getD i default).Len) s.B
 have a2 := PM (zH l i) s.A
 rw [Bool.eq_iff_iff]
 simp only [decide_eq_true_eq, Bool.and_eq_true]
 split <;> omega
def cutL (l : List Slice) (s : Span) (k : Nat) : List Slice := (List.range k).filterMap (fun i => if ml (ext l i) s > 0 then some ⟨ml (ext l i) s, (l.getD i default).Sec⟩ else none)
theorem qEo (l : List Slice) (s : Span) (k : Nat) : cutL l s (k + 1) = if ml (ext l k) s > 0 then cutL l s k ++ [⟨ml (ext l k) s, (l.getD k default).Sec⟩] else cutL l s k := by
 unfold cutL
 rw [List.range_succ, List.filterMap_append]
 by_cases c : ml (ext l k) s > 0
 ·rw [if_pos c]; simp [c]
 ·rw [if_neg c]; simp [c]
theorem qGR (l : List Slice) (s : Span) : ∀ k, (cutL l s k).length ≤ k
 | 0 => by simp [cutL]
 | k + 1 => by
  have := qGR l s k
  rw [qEo]
  split <;> simp <;> omega
theorem Cut_eq {l : List Slice} (h : VSol l) (s : Span) : IV l s = some (cutL l s l.length) := by
 have hl := h.len
 unfold IV
 rw [(MV l).2, (TU l).2 h]
 simp only [Option.bind_some, bne_self_eq_false, cond_false]
 have k := JK l.length (fun n (t : List Slice × Int) i => WK l s n t.1 t.2 i) (fun i t => (cutL l s (i + 1), zH l (i + 1))) (fun t => t.1)
  (fun i t => t.1 = cutL l s i ∧ t.2 = zH l i) 0 (by omega) (by omega)
  (fun n i t hi ht => by
   obtain ⟨t1, t2⟩ := t
   obtain ⟨e1, e2⟩ := ht
   simp only at e1 e2
   have bd := h.bd (i := i) (by omega)
   have at' := (h.at hi).2.2
   rw [wY] at at'
   refine ⟨?_, rfl, rfl⟩
   simp only
   rw [WK, decide_eq_true (by omega), zA (by omega) (by omega)]
   simp only [cond_true, Int.toNat_natCast, zF (show i < 4611686018427387904 by omega), e2, qOJ h hi s, Option.bind_some, HS]
   rw [qP (n := zH l i + (l.getD i default).Len) (by omega) (by omega), ← wY, qEo]
   have cl := qGR l s i
   by_cases c : ml (ext l i) s > 0
   ·rw [decide_eq_true c, if_pos c, JN (by rw [e1]; omega) (by omega), e1]; rfl
   ·rw [decide_eq_false c, if_neg c, e1]; rfl)
  (fun n t _ => by rw [WK, decide_eq_false (by omega)]; rfl) ([], 0) ⟨rfl, rfl⟩
 rw [show ((0 : Nat) : Int) = 0 from rfl, Nat.sub_zero] at k
 simp only at k
 rw [k.1, k.2.1]; rfl
theorem qQb {l : List Slice} {s : Span} {k : Nat} : ∀ x ∈ cutL l s k, ∃ i, i < k ∧ x.Sec = (l.getD i default).Sec := by
 intro x hx
 unfold cutL at hx
 rw [List.mem_filterMap] at hx
 obtain ⟨i, hi, e⟩ := hx
 refine ⟨i, by simpa using hi, ?_⟩
 split at e
 ·cases e; rfl
 ·cases e
theorem wane_eq {l : List Slice} (h : VSol l) {r : Rect} (hr : VR r) {s : Span} (hs : s.A < s.B) : SS l ⟨r.X, r.Y, s⟩ = some (worst (zones l r) s) := by
 have hl := h.len
 have ha := qNl hr
 have eA : w64 (w64 (r.X.B - r.X.A) * w64 (r.Y.B - r.Y.A)) = QF r := by
  have hr' := hr
  unfold VR at hr'
  rw [qP (n := r.X.B - r.X.A) (by omega) (by omega), qP (n := r.Y.B - r.Y.A) (by omega) (by omega)]
  unfold QF at ha ⊢
  exact qP (by omega) (by omega)
 unfold SS
 rw [Cut_eq h]
 simp only [Option.bind_some]
 have cl := qGR l s l.length
 have k := qCm (cutL l s l.length) (fun n (m : Int) i => XM ⟨r.X, r.Y, s⟩ (cutL l s l.length) n m i) (fun x => (x : Int)) (fun _ a m => imax m (NC (QF r) (jO a.Sec r.X r.Y))) (fun m => m) (fun _ _ => True) (by omega)
  (fun n x m hx _ => by
   refine ⟨?_, trivial⟩
   obtain ⟨i, hi, es⟩ := qQb _ (KF hx)
   have vs := (h.at hi).1
   rw [XM, decide_eq_true (by omega), zA (by omega) (by omega)]
   simp only [cond_true, Int.toNat_natCast, zF (show x < 4611686018427387904 by omega), qOr, Option.bind_some, eA, es]
   have wb := qLu vs r.X r.Y
   rw [qMv vs, nz_t (by omega), qP (n := QF r - jO (l.getD i default).Sec r.X r.Y) (by omega) (by omega), qP (n := 1000 * _) (by omega) (by omega), qP (n := 1000 * _ + _) (by omega) (by omega), qP (n := 1000 * _ + _ - 1) (by omega) (by omega)]
   simp only [cond_true]
   have tb : -2000000000 ≤ NC (QF r) (jO (l.getD i default).Sec r.X r.Y) ∧ NC (QF r) (jO (l.getD i default).Sec r.X r.Y) ≤ 2000000000 := by
    unfold NC
    generalize hu : 1000 * (QF r - jO (l.getD i default).Sec r.X r.Y) + QF r - 1 = u
    have hub : -1440000000 ≤ u ∧ u ≤ 1441440000 := by omega
    have ab := Int.natAbs_tdiv_le_natAbs u (QF r)
    omega
   unfold NC at tb ⊢
   rw [qP (by omega) (by omega)])
  (fun n m _ => by rw [XM, decide_eq_false (by omega)]; rfl) (i := 0) rfl 0 trivial
 rw [k.1, qGh]
 simp only [Option.bind_some]
 unfold worst
 rw [qJX]
 have key : ∀ j, j ≤ l.length → (cutL l s j).foldl (fun m a => imax m (NC (QF r) (jO a.Sec r.X r.Y))) 0 = yO (fun i m => bif hitZ ((zones l r).getD i default).z s then imax m ((zones l r).getD i default).lack else m) 0 j 0 := by
  intro j
  induction j with
  | zero => intro _; rfl
  | succ j ih =>
   intro hj
   have hz : (zones l r).getD j default = ⟨ext l j, NC (QF r) (jO (l.getD j default).Sec r.X r.Y)⟩ := by unfold zones; exact qN0 _ (by omega)
   rw [TH, ← ih (by omega), Nat.zero_add, hz, qEo]
   simp only
   rw [← hit_ml h (by omega) hs]
   by_cases c : ml (ext l j) s > 0
   ·rw [if_pos c, decide_eq_true c, List.foldl_append]; rfl
   ·rw [if_neg c, decide_eq_false c]; rfl
 rw [key _ (Nat.le_refl _)]
/-! ### The reference's pieces -/
theorem qJ9 {x : Span} (h : -600 ≤ x.A ∧ x.A < x.B ∧ x.B ≤ 600) : RF x = some true := by
 unfold RF KG
 rw [decide_eq_true (show x.A ≥ -600 by omega), decide_eq_true h.2.1, decide_eq_true h.2.2]; rfl
theorem qPj {l : List Slice} (h : VSol l) {r : Rect} (hr : VR r) (s : Span) : DH l ⟨r.X, r.Y, s⟩ = some (decide (0 ≤ s.A ∧ s.A < s.B ∧ s.B ≤ zT l)) := by
 unfold DH QY
 rw [qJ9 hr.1, qJ9 hr.2, (qB0 l).2, qDb h]
 simp only [Option.bind_some, cond_true]
 by_cases c1 : s.A ≥ 0
 ·rw [decide_eq_true c1]
  by_cases c2 : s.A < s.B
  ·rw [decide_eq_true c2]
   simp only [cond_true]
   congr 1
   rw [decide_eq_decide]; omega
  ·rw [decide_eq_false c2, decide_eq_false (show ¬ (0 ≤ s.A ∧ s.A < s.B ∧ s.B ≤ zT l) by omega)]; rfl
 ·rw [decide_eq_false c1, decide_eq_false (show ¬ (0 ≤ s.A ∧ s.A < s.B ∧ s.B ≤ zT l) by omega)]; rfl
theorem qOM {l : List Slice} (h : VSol l) {ds : List Defect} (hd : ds.length ≤ 64) {p : Product} (hv : VP p) {r : Rect} (hr : VR r) (fine : Int) (s : Span) : DT l ds p ⟨r.X, r.Y, s⟩ = some (dimOk r p && (worthV (viewOf l ds p r) s fine).2) := by
 have hr' := hr
 unfold VR at hr'
 have hll := hv.ll
 have sb := qDu h
 unfold DT
 rw [qPj h hr]
 simp only [Option.bind_some]
 unfold worthV
 rw [show (viewOf l ds p r).length = zT l from rfl]
 by_cases c' : ¬ (0 ≤ s.A ∧ s.A < s.B ∧ s.B ≤ zT l)
 ·rw [decide_eq_false c', if_neg c', Bool.and_false]; rfl
 have c : 0 ≤ s.A ∧ s.A < s.B ∧ s.B ≤ zT l := Decidable.not_not.1 c'
 rw [decide_eq_true c, if_pos c, (AM p).2, qP (n := s.B - s.A) (by omega) (by omega), qJ0 p _ (by omega), qP (n := r.X.B - r.X.A) (by omega) (by omega), qP (n := r.Y.B - r.Y.A) (by omega) (by omega)]
 simp only [Option.bind_some, Bool.not_true, cond_false]
 rw [show (viewOf l ds p r).product = p from rfl, show (viewOf l ds p r).zones = zones l r from rfl, show (viewOf l ds p r).rect = r from rfl, show (viewOf l ds p r).defects = near ds ⟨r.X, r.Y, ⟨0, zT l⟩⟩ from rfl, qF8 fine _ (qNN c.1 c.2.2)]
 have K : wD l ds p ⟨r.X, r.Y, s⟩ false = some ((if worst (zones l r) s > p.Wane then ((0 : Int), false) else BI ds ⟨r.X, r.Y, s⟩ fine (PI p (s.B - s.A)).1).2) := by
  unfold wD
  have L : jJ ds ⟨r.X, r.Y, s⟩ FUEL ((0 : Nat) : Int) = some (findN (bad3 ds ⟨r.X, r.Y, s⟩) 0 (ds.length - 0)) := by
   refine QO ds.length (jJ ds ⟨r.X, r.Y, s⟩) _ 0 (by omega) (by omega) (fun m i hi hN => ?_) (fun m => ?_)
   ·rw [jJ, decide_eq_true (by omega), zA (by omega) (by omega)]
    simp only [cond_true, Int.toNat_natCast, zF (show i < 4611686018427387904 by omega), qGf, Option.bind_some, GB, bad3]
    cases (ds.getD i default).Kind == 3 <;> cases tch (ds.getD i default).Box ⟨r.X, r.Y, s⟩ <;> rfl
   ·rw [jJ, decide_eq_false (by omega)]; rfl
  rw [show ((0 : Nat) : Int) = 0 from rfl, Nat.sub_zero] at L
  rw [L, wane_eq h hr c.2.1]
  unfold BI
  rw [qCe]
  simp only [cond_false, Option.bind_some]
  cases hf : findN (bad3 ds ⟨r.X, r.Y, s⟩) 0 ds.length with
  | inl e =>
   rw [qOl _ _ _ _ _ hf]
   simp only [Sum.elim_inl]
   split <;> rfl
  | inr u =>
   simp only [Sum.elim_inr]
   by_cases c4 : worst (zones l r) s > p.Wane
   ·rw [if_pos c4, decide_eq_false (by omega)]
   ·rw [if_neg c4, decide_eq_true (by omega)]
 have KT : wD l ds p ⟨r.X, r.Y, s⟩ true = some false := rfl
 have KB : ∀ q, wD l ds p ⟨r.X, r.Y, s⟩ q = some (!q && ((if worst (zones l r) s > p.Wane then ((0 : Int), false) else BI ds ⟨r.X, r.Y, s⟩ fine (PI p (s.B - s.A)).1).2)) := fun q => by
  cases q with
  | true => exact KT
  | false => rw [K]; rfl
 simp only [KB]
 cases hq : (PI p (s.B - s.A)).2 with
 | false => simp only [Bool.not_false, cond_true, Bool.not_true, Bool.false_and, cond_false, Bool.and_false]
 | true =>
  simp only [Bool.not_true, cond_false, cond_true, dimOk]
  generalize (if worst (zones l r) s > p.Wane then ((0 : Int), false) else BI ds ⟨r.X, r.Y, s⟩ fine (PI p (s.B - s.A)).1).2 = W
  cases r.X.B - r.X.A == (zV p).1 <;> cases r.Y.B - r.Y.A == (zV p).2 <;> cases r.X.B - r.X.A == (zV p).2 <;> cases r.Y.B - r.Y.A == (zV p).1 <;> rfl
theorem qOz {l : List Slice} (h : VSol l) {ds : List Defect} (hd : ds.length ≤ 64) {p : Product} (hv : VP p) {r : Rect} {fine : Int} (hf : 0 ≤ fine ∧ fine ≤ 1000000) {s : Span} (ha : (worthV (viewOf l ds p r) s fine).2 = true) : LK ds p ⟨r.X, r.Y, s⟩ fine = some (worthV (viewOf l ds p r) s fine).1 := by
 have hll := hv.ll
 have sb := qDu h
 unfold LK
 unfold worthV at ha ⊢
 rw [show (viewOf l ds p r).length = zT l from rfl] at ha ⊢
 by_cases c' : ¬ (0 ≤ s.A ∧ s.A < s.B ∧ s.B ≤ zT l)
 ·rw [if_neg c'] at ha; cases ha
 have c : 0 ≤ s.A ∧ s.A < s.B ∧ s.B ≤ zT l := Decidable.not_not.1 c'
 rw [if_pos c] at ha ⊢
 rw [show (viewOf l ds p r).product = p from rfl, show (viewOf l ds p r).zones = zones l r from rfl, show (viewOf l ds p r).rect = r from rfl, show (viewOf l ds p r).defects = near ds ⟨r.X, r.Y, ⟨0, zT l⟩⟩ from rfl, qF8 fine _ (qNN c.1 c.2.2)] at ha ⊢
 rw [qP (n := s.B - s.A) (by omega) (by omega), qJ0 p _ (by omega)]
 simp only [Option.bind_some]
 have pb := qNE hv (s.B - s.A)
 cases hq : (PI p (s.B - s.A)).2 with
 | false => rw [hq] at ha; cases ha
 | true =>
  rw [hq] at ha
  simp only [cond_true] at ha ⊢
  by_cases c4 : worst (zones l r) s > p.Wane
  ·rw [if_pos c4] at ha; cases ha
  rw [if_neg c4] at ha ⊢
  have k := JK ds.length (fun n (v : Int) i => QC ds ⟨r.X, r.Y, s⟩ fine n v i) (qCu ds ⟨r.X, r.Y, s⟩ fine) (fun v => v) (fun i v => -(1000000 * (i : Int)) ≤ v ∧ v ≤ 1000000) 0 (by omega) (by omega)
   (fun n i v hi hv' => by
    refine ⟨?_, ?_⟩
    ·rw [QC, decide_eq_true (by omega), zA (by omega) (by omega)]
     simp only [cond_true, Int.toNat_natCast, zF (show i < 4611686018427387904 by omega), qGf, Option.bind_some, ND, qCu]
     rw [qP (n := v - fine) (by omega) (by omega)]
     cases tch (ds.getD i default).Box ⟨r.X, r.Y, s⟩ <;> rfl
    ·unfold qCu
     cases tch (ds.getD i default).Box ⟨r.X, r.Y, s⟩ with
     | true => simp only [cond_true]; omega
     | false => simp only [cond_false]; omega)
   (fun n v _ => by rw [QC, decide_eq_false (by omega)]; rfl) (PI p (s.B - s.A)).1 (by omega)
  rw [show ((0 : Nat) : Int) = 0 from rfl, Nat.sub_zero] at k
  rw [k.1]
  unfold BI at ha ⊢
  rw [qCe] at ha ⊢
  cases hf2 : findN (bad3 ds ⟨r.X, r.Y, s⟩) 0 ds.length with
  | inl e => rw [hf2] at ha; cases ha
  | inr u =>
   simp only [Option.bind_some]
   congr 1
   unfold imax
   split <;> split <;> omega
theorem qNP {l : List Slice} (h : VSol l) {ds : List Defect} (hd : ds.length ≤ 64) {p : Product} (hv : VP p) {r : Rect} (hr : VR r) {fine z : Int} (hf : 0 ≤ fine ∧ fine ≤ 1000000) (h0 : 0 ≤ z) (h1 : z ≤ 20000) (st : Int × Bool × Span) :
  jC l ds p r fine z FUEL st.1 st.2.1 0 st.2.2 = some (bif dimOk r p then qC8 (viewOf l ds p r) fine z st else st) := by
 have hll := hv.ll
 have k := JK p.Lengths.length (fun n (s : Int × Bool × Span) i => jC l ds p r fine z n s.1 s.2.1 i s.2.2) (fun i st => bif dimOk r p then OM st (worthV (viewOf l ds p r) (spanAt p z i) fine) (spanAt p z i) else st) (fun s => s) (fun _ _ => True) 0 (by omega) (by omega)
  (fun n i s hi _ => ⟨by
   obtain ⟨s1, s2, s3⟩ := s
   have lb := hv.lb i hi
   try simp only
   rw [jC, decide_eq_true (by omega), zA (by omega) (by omega)]
   simp only [cond_true, Int.toNat_natCast, zF (show i < 4611686018427387904 by omega)]
   rw [qP (n := z + p.Lengths.getD i default) (by omega) (by omega)]
   rw [show (Box.mk r.X r.Y ⟨z, z + p.Lengths.getD i default⟩) = ⟨r.X, r.Y, spanAt p z i⟩ from rfl, qOM h hd hv hr fine]
   simp only [Option.bind_some]
   cases hdm : dimOk r p with
   | false => simp only [Bool.false_and, Bool.not_false, cond_true, cond_false, JA, zF (show i < 4611686018427387904 by omega)]
   | true =>
    simp only [Bool.true_and, cond_true]
    cases ha : (worthV (viewOf l ds p r) (spanAt p z i) fine).2 with
    | false =>
     have : OM (s1, s2, s3) (worthV (viewOf l ds p r) (spanAt p z i) fine) (spanAt p z i) = (s1, s2, s3) := by unfold OM; rw [ha]; rfl
     rw [this]
     simp only [Bool.not_false, cond_true, JA, zF (show i < 4611686018427387904 by omega)]
    | true =>
     rw [qOz h hd hv hf ha]
     simp only [Option.bind_some, Bool.not_true, cond_false, LV, JA, OM, Int.toNat_natCast, zF (show i < 4611686018427387904 by omega)]
     rw [ha, qP (n := z + p.Lengths.getD i default) (by omega) (by omega)]
     cases s2 <;> cases decide ((worthV (viewOf l ds p r) (spanAt p z i) fine).1 > s1) <;> rfl, trivial⟩)
  (fun n s _ => by rw [jC, decide_eq_false (by omega)]; rfl) st trivial
 rw [show ((0 : Nat) : Int) = 0 from rfl, Nat.sub_zero] at k
 rw [k.1]
 cases dimOk r p with
 | true => rfl
 | false =>
  have : ∀ m, yO (fun i (st : Int × Bool × Span) => bif false then OM st (worthV (viewOf l ds p r) (spanAt p z i) fine) (spanAt p z i) else st) 0 m st = st := fun m => by
   induction m with
   | zero => rfl
   | succ m ih => rw [TH, ih]; rfl
  rw [this]; rfl
theorem qOL {l : List Slice} {ds : List Defect} {p : Product} {r : Rect} {step fine : Int} (hs : VSol l) (hd : VT ds = 0) (hp : QE [p] = 0) (hv : VP p) (hr : VR r) (hst : 1 ≤ step ∧ step ≤ 20000) (hf : 0 ≤ fine ∧ fine ≤ 1000000) :
  SM l ds p r step fine = some ((bestR l ds p r step fine).2.2, (bestR l ds p r step fine).1, (bestR l ds p r step fine).2.1) := by
 have hdl := ((qDY ds).1 hd).1
 have sb := qDu hs
 unfold SM UR ID RU
 rw [qGw, qGw, decide_eq_true hst, decide_eq_true hf, (MV l).2, (TU l).2 hs, qJD, hd, qEU, hp]
 simp only [Option.bind_some, Bool.not_true, cond_false, beq_self_eq_true, cond_true]
 have hN : DM (zT l) step ≤ 1000000000 := by
  unfold DM
  have := Int.ediv_le_self step (show 0 ≤ zT l + step - 1 by omega)
  omega
 have k := qHr (DM (zT l) step) (fun n (s : Int × Bool × Span) (z : Int) => XO l ds p r step fine n s.1 s.2.1 z s.2.2) (fun k => (k : Int) * step) (fun k st => bif dimOk r p then qC8 (viewOf l ds p r) fine ((k : Int) * step) st else st) (fun s => s) (fun _ _ => True) hN
  (fun n i s hi _ => ⟨by
   have h1 := (qB9 (by omega) hst.1).1 hi
   have h0 : 0 ≤ (i : Int) * step := Int.mul_nonneg (by omega) (by omega)
   have e : (i : Int) * step + step = ((i + 1 : Nat) : Int) * step := by rw [Int.natCast_add, Int.add_mul]; simp
   try simp only
   rw [XO, (qB0 l).2, qDb hs]
   simp only [Option.bind_some]
   rw [decide_eq_true h1, qNP hs hdl hv hr hf h0 (by omega) s, qP (by omega) (by omega), e]
   rfl, trivial⟩)
  (fun n s _ => by
   have h1 : ¬ ((DM (zT l) step : Nat) : Int) * step < zT l := fun h => by have := (qB9 (by omega) hst.1).2 h; omega
   try simp only
   rw [XO, (qB0 l).2, qDb hs]
   simp only [Option.bind_some]
   rw [decide_eq_false h1]; rfl) (0, false, ⟨0, 0⟩) trivial
 simp only [Int.natCast_zero, Int.zero_mul] at k
 rw [k.1]
 unfold bestR bestV
 cases dimOk r p with
 | true => rfl
 | false =>
  have : ∀ m, yO (fun k (st : Int × Bool × Span) => bif false then qC8 (viewOf l ds p r) fine ((k : Int) * step) st else st) 0 m (0, false, ⟨0, 0⟩) = (0, false, ⟨0, 0⟩) := fun m => by
   induction m with
   | zero => rfl
   | succ m ih => rw [TH, ih]; rfl
  rw [this]; rfl
end Saw
end Go.SL

namespace Go.SL.Saw
def bdR (b : Bool) (ps : List Product) : Rect → Int → Int := if b then bdCat ps else bdAny
theorem qO1 {r : Rect} (h : WR r) : w64 (r.X.B - r.X.A) = r.X.B - r.X.A ∧ w64 (r.Y.B - r.Y.A) = r.Y.B - r.Y.A := by
 obtain ⟨⟨a1, a2, a3⟩, b1, b2, b3⟩ := h
 exact ⟨qP (by omega) (by omega), qP (by omega) (by omega)⟩
theorem qCJ {r : Rect} (hw : WR r) (n : Node) (nodes : List Node) (ps : List Product) (b : Bool) (kerf i : Int) (lv : List Leaf) (ct : List Rect) : wA n r nodes ps b kerf i lv ct = some (bdR b ps r n.At) := by
 unfold wA QP QS zZ bdR
 cases b with
 | false =>
  simp only [Bool.not_false, cond_true, Bool.false_eq_true, if_false]
  unfold bdAny
  by_cases h1 : n.At < 0
  ·rw [decide_eq_true h1, if_pos (.inl h1)]; rfl
  ·by_cases h2 : 16 ≤ n.At
   ·rw [decide_eq_false h1, decide_eq_true (show n.At ≥ 16 from h2), if_pos (.inr h2)]; rfl
   ·rw [decide_eq_false h1, decide_eq_false (show ¬ n.At ≥ 16 from h2), if_neg (by omega)]; rfl
 | true =>
  simp only [Bool.not_true, cond_false, if_true]
  unfold bdCat
  by_cases h1 : n.At < 0
  ·rw [decide_eq_true h1, if_pos (.inl h1)]; rfl
  ·rw [decide_eq_false h1, cond_false]
   by_cases h2 : (ps.length : Int) ≤ n.At
   ·rw [decide_eq_true (show n.At ≥ _ from h2), if_pos (.inr h2)]; rfl
   ·rw [decide_eq_false (show ¬ n.At ≥ _ from h2), if_neg (by omega), cond_false, zA (by omega) (by omega), cond_true, (AM _).2, (qO1 hw).1, (qO1 hw).2]
    simp only [Option.bind_some]
    unfold dimOk
    generalize (zV (ps.getD n.At.toNat default)).1 = g1
    generalize (zV (ps.getD n.At.toNat default)).2 = g2
    generalize r.X.B - r.X.A = x
    generalize r.Y.B - r.Y.A = y
    cases x == g1 <;> cases x == g2 <;> cases y == g1 <;> cases y == g2 <;> rfl
theorem qP8 {r : Rect} (hw : WR r) (n : Node) (nodes : List Node) (ps : List Product) (b : Bool) (kerf i : Int) (lv : List Leaf) : WH n r nodes ps b kerf i lv = some (bdR b ps r n.At) := by
 rw [← qCJ hw n nodes ps b kerf i lv []]
 rfl
theorem s2_step (k : Nat) (r : Rect) (l : Int) (nodes : List Node) (ps : List Product) (b : Bool) (kerf i : Int) (lv : List Leaf) (ct : List Rect) : qQ (k + 1) r l nodes ps b kerf i lv ct
  = EB nodes kerf (fun n r => wA n r nodes ps b kerf (w64 (i + 1)) (lv ++ [⟨r, n.At⟩]) ct) (fun r l i ct => qQ k r l nodes ps b kerf i lv ct) (fun r l i lv ct => qQ k r l nodes ps b kerf i lv ct) r l i lv ct := rfl
theorem s1_step (k : Nat) (r : Rect) (l : Int) (nodes : List Node) (ps : List Product) (b : Bool) (kerf i : Int) (ct : List Rect) : qX (k + 1) r l nodes ps b kerf i ct
  = EB nodes kerf (fun n r => wA n r nodes ps b kerf (w64 (i + 1)) ([] ++ [⟨r, n.At⟩]) ct) (fun r l i ct => qX k r l nodes ps b kerf i ct) (fun r l i lv ct => qQ FUEL r l nodes ps b kerf i lv ct) r l i [] ct := rfl
theorem s0_step (r : Rect) (l : Int) (nodes : List Node) (ps : List Product) (b : Bool) (kerf i : Int) : JI r l nodes ps b kerf i
  = EB nodes kerf (fun n r => WH n r nodes ps b kerf (w64 (i + 1)) ([] ++ [⟨r, n.At⟩])) (fun r l i ct => qX FUEL r l nodes ps b kerf i ct) (fun r l i lv ct => qQ FUEL r l nodes ps b kerf i lv ct) r l i [] [] := rfl
theorem qCQ {nodes : List Node} {kerf : Int} {bd : Rect → Int → Int} {f : Node → Rect → Option Int} {rec1 : Rect → Int → Int → List Rect → Option WR4} {rec2 : Rect → Int → Int → List Leaf → List Rect → Option WR4} {r : Rect} {l i : Int} {lv : List Leaf} {ct : List Rect} (hr : WR r) (h : ∀ n, f n r = some (bd r n.At)) :
  EB nodes kerf f rec1 rec2 r l i lv ct = EB nodes kerf (fun n r => some (bd r n.At)) rec1 rec2 r l i lv ct := by
 unfold EB k1W
 rw [h]
variable {nodes : List Node} {ps : List Product} {b : Bool} {kerf : Int}
theorem qFr (hk : 0 ≤ kerf ∧ kerf ≤ 20) (hn : nodes.length ≤ 1000) : ∀ (k : Nat) (lv : List Leaf), qDO (bdR b ps) kerf nodes k lv (fun r l i ct => qQ k r l nodes ps b kerf i lv ct)
 | 0, _ => fun ns i x ct _ _ h => absurd h (by omega)
 | k + 1, lv => by
  intro ns i x ct h1 h2 h3 h4 h5 h6 h7 h8
  have := qE4 hk hn (bd := bdR b ps) (bdf := fun n r => some (bdR b ps r n.At)) (fun _ _ _ => rfl) (qFr hk hn k lv) (rec2 := fun r l i lv ct => qQ k r l nodes ps b kerf i lv ct) (fun lv => qFr hk hn k lv) ns i x ct h1 h2 h3 h4 h5 h6 h7 h8
  simp only at this ⊢
  rw [s2_step, qCQ (bd := bdR b ps) h4 (fun n => qCJ h4 n _ _ _ _ _ _ _)]
  exact this
theorem qNW {bd : Rect → Int → Int} {lv : List Leaf} {f : Rect → Int → Int → List Rect → Option WR4} {m k : Nat} (h : qDO bd kerf nodes m lv f) (hkm : k ≤ m) : qDO bd kerf nodes k lv f := fun ns i x ct h1 h2 h3 => h ns i x ct h1 h2 (by omega)
theorem qNg (hk : 0 ≤ kerf ∧ kerf ≤ 20) (hn : nodes.length ≤ 1000) : ∀ (k : Nat), k ≤ FUEL → qDO (bdR b ps) kerf nodes k [] (fun r l i ct => qX k r l nodes ps b kerf i ct)
 | 0, _ => fun ns i x ct _ _ h => absurd h (by omega)
 | k + 1, hkf => by
  intro ns i x ct h1 h2 h3 h4 h5 h6 h7 h8
  have := qE4 hk hn (bd := bdR b ps) (bdf := fun n r => some (bdR b ps r n.At)) (fun _ _ _ => rfl) (qNg hk hn k (by omega)) (rec2 := fun r l i lv ct => qQ FUEL r l nodes ps b kerf i lv ct) (fun lv => qNW (qFr hk hn FUEL lv) (by omega)) ns i x ct h1 h2 h3 h4 h5 h6 h7 h8
  simp only at this ⊢
  rw [s1_step, qCQ (bd := bdR b ps) h4 (fun n => qCJ h4 n _ _ _ _ _ _ _)]
  exact this
theorem s0_spec (hk : 0 ≤ kerf ∧ kerf ≤ 20) (hn : nodes.length ≤ 1000) {r : Rect} (hr : WR r) : OutW (bdR b ps) kerf nodes 0 ⟨r, 1⟩ [] [] (JI r 1 nodes ps b kerf 0) := by
 have := qE4 hk hn (bd := bdR b ps) (bdf := fun n r => some (bdR b ps r n.At)) (fun _ _ _ => rfl) (qNg hk hn FUEL (Nat.le_refl _)) (rec2 := fun r l i lv ct => qQ FUEL r l nodes ps b kerf i lv ct) (fun lv => qFr hk hn FUEL lv) nodes 0 ⟨r, 1⟩ [] rfl (Nat.zero_le _) (by rw [YF]; omega) hr (by simp) (by simp) (Nat.zero_le _) (Nat.zero_le _)
 simp only at this
 rw [s0_step, qCQ (bd := bdR b ps) hr (fun n => qP8 hr n _ _ _ _ _ _)]
 exact this
theorem qN5 (r : Rect) : BD r = some (decide (VR r)) := by
 have k : decide (VR r) = (decide (r.X.A < r.X.B) && (decide (r.Y.A < r.Y.B) && (decide (r.X.A ≥ -600) && (decide (r.X.B ≤ 600) && (decide (r.Y.A ≥ -600) && decide (r.Y.B ≤ 600)))))) := by
  rw [Bool.eq_iff_iff]
  simp only [Bool.and_eq_true, decide_eq_true_eq]
  unfold VR
  omega
 rw [k]
 unfold BD yM
 cases decide (r.X.A < r.X.B) <;> cases decide (r.Y.A < r.Y.B) <;> cases decide (r.X.A ≥ -600) <;> cases decide (r.X.B ≤ 600) <;> cases decide (r.Y.A ≥ -600) <;> rfl
theorem qLF (p : Pattern) (ps : List Product) (b : Bool) (kerf : Int) : NG p ps b kerf = some (if wB (bdR b ps) p kerf = 0 then (lvP p kerf, ctP p kerf, 0) else ([], [], wB (bdR b ps) p kerf)) := by
 have h9 : UJ p ps b kerf true = some ([], [], 9) := rfl
 unfold NG
 rw [qN5]
 simp only [Option.bind_some]
 by_cases hv : VR p.Frame
 ·rw [decide_eq_true hv]
  simp only [Bool.not_true, cond_false]
  by_cases h1 : kerf < 0
  ·have e : wB (bdR b ps) p kerf = 9 := by unfold wB; rw [if_neg (by simpa using hv), if_pos (.inl h1)]
   rw [decide_eq_true h1, e]; rfl
  by_cases h2 : kerf > 20
  ·have e : wB (bdR b ps) p kerf = 9 := by unfold wB; rw [if_neg (by simpa using hv), if_pos (.inr h2)]
   rw [decide_eq_false h1, decide_eq_true h2, e]; rfl
  rw [decide_eq_false h1, decide_eq_false h2, cond_false]
  unfold UJ
  rw [cond_false]
  by_cases h3 : 127 < p.Nodes.length
  ·have e : wB (bdR b ps) p kerf = 4 := by unfold wB; rw [if_neg (by simpa using hv), if_neg (by omega), if_pos h3]
   rw [decide_eq_true (show ((p.Nodes.length : Nat) : Int) > 127 by omega), e]; rfl
  rw [decide_eq_false (show ¬ ((p.Nodes.length : Nat) : Int) > 127 by omega), cond_false]
  have ec : wB (bdR b ps) p kerf = chkP (bdR b ps) kerf p.Nodes [⟨p.Frame, 1⟩] := by unfold wB; rw [if_neg (by simpa using hv), if_neg (by omega), if_neg h3]
  rw [ec]
  rcases s0_spec (nodes := p.Nodes) (ps := ps) (b := b) (kerf := kerf) (by omega) (by omega) (VR_WR hv) with ⟨t, rest, g1, g2, g3⟩ | ⟨e, a, l, c, he, g1, g2⟩
  ·rw [g3]
   simp only [Option.bind_some, beq_self_eq_true, cond_true, Nat.zero_add, List.nil_append]
   have e2 : chkP (bdR b ps) kerf p.Nodes [⟨p.Frame, 1⟩] = chkP (bdR b ps) kerf rest [] := by rw [g1]; exact qBi t _ _ _ g2
   rw [e2]
   unfold UD UG
   cases rest with
   | nil =>
    have hl : p.Nodes.length = (zW t).length := by rw [g1]; simp
    rw [decide_eq_false (by omega)]
    have hp : p.Nodes = zW t := by rw [g1]; simp
    simp only [cond_false, bne_self_eq_false]
    show _ = some (lvP p kerf, ctP p kerf, 0)
    unfold lvP ctP
    rw [hp, qDS LW kerf _ (HH g2), qDS (cutG kerf) kerf _ (HH g2)]
    rfl
   | cons n r =>
    have hl : p.Nodes.length = (zW t).length + (r.length + 1) := by rw [g1]; simp
    rw [decide_eq_true (by omega)]
    rfl
  ·rw [g1, g2 []]
   have h0 : (e == 0) = false := by simpa using he
   have h0' : (e != 0) = true := by simpa using he
   simp only [Option.bind_some, h0, cond_false, if_neg he]
   unfold UD UG
   simp only [cond_false, h0', cond_true]
 ·have e : wB (bdR b ps) p kerf = 19 := by unfold wB; rw [if_pos (by simpa using hv)]
  rw [decide_eq_false hv, e]; rfl
theorem qMY (p : Pattern) (ps : List Product) (kerf : Int) : LD p ps kerf = some (wB (bdCat ps) p kerf) := by
 unfold LD
 rw [qLF]
 have e : bdR true ps = bdCat ps := rfl
 rw [e]
 by_cases h : wB (bdCat ps) p kerf = 0
 ·rw [if_pos h]; simp [h]
 ·rw [if_neg h]; rfl
theorem qOm (p : Pattern) (kerf : Int) : BL p kerf = some (if wB bdAny p kerf = 0 then (lvP p kerf, 0) else ([], wB bdAny p kerf)) := by
 unfold BL
 rw [qLF]
 have e : bdR false ([] : List Product) = bdAny := rfl
 rw [e]
 by_cases h : wB bdAny p kerf = 0
 ·rw [if_pos h, if_pos h]; rfl
 ·rw [if_neg h, if_neg h]; rfl
end Go.SL.Saw

namespace Go.SL.Saw
def wholeR (l : List Slice) (r : Rect) : Int := volS l r.X r.Y ⟨0, zT l⟩
end Go.SL.Saw
