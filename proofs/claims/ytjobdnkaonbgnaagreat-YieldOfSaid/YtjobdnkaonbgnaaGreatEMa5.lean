/- Edge's plain mathematics over the reference, part 3: checks, volumes. -/
import Derived.Test.YtjobdnkaonbgnaaGreatEMa4
set_option linter.unusedVariables false
set_option linter.unusedSimpArgs false
namespace Go.SL
namespace Saw
theorem qHg (n a b : Int) : yM n a b = some (decide (a ≤ n ∧ n ≤ b)) := by
 unfold yM MO
 by_cases h1 : n ≥ a
 ·rw [decide_eq_true h1]
  by_cases h2 : n ≤ b
  ·rw [decide_eq_true h2, decide_eq_true ⟨h1, h2⟩]; rfl
  ·rw [decide_eq_false h2, decide_eq_false (fun h => h2 h.2)]; rfl
 ·rw [decide_eq_false h1, decide_eq_false (show ¬ (a ≤ n ∧ n ≤ b) from fun h => h1 h.1)]; rfl
theorem qPN (s : Saw) (r : Rates) : MA s r = some (zbQ s r) := by
 unfold MA YT RD
 simp only [qHg, Option.bind_some]
 have no : ¬ VW s r → zbQ s r = 9 := fun h => by unfold zbQ; rw [if_neg h]
 by_cases c1' : ¬ (0 ≤ s.Kerf ∧ s.Kerf ≤ 20)
 ·rw [decide_eq_false c1', no (fun h => c1' h.kerf)]; rfl
 have c1 : 0 ≤ s.Kerf ∧ s.Kerf ≤ 20 := Decidable.not_not.1 c1'
 by_cases c2' : ¬ (0 ≤ s.Trim ∧ s.Trim ≤ 20)
 ·rw [decide_eq_true c1, decide_eq_false c2', no (fun h => c2' h.trim)]; rfl
 have c2 : 0 ≤ s.Trim ∧ s.Trim ≤ 20 := Decidable.not_not.1 c2'
 by_cases c3' : ¬ (1 ≤ s.Pitch ∧ s.Pitch ≤ 2000)
 ·rw [decide_eq_true c1, decide_eq_true c2, decide_eq_false c3', no (fun h => c3' h.pitch)]; rfl
 have c3 : 1 ≤ s.Pitch ∧ s.Pitch ≤ 2000 := Decidable.not_not.1 c3'
 by_cases c4' : ¬ (1 ≤ s.Step ∧ s.Step ≤ 20000)
 ·rw [decide_eq_true c1, decide_eq_true c2, decide_eq_true c3, decide_eq_false c4', no (fun h => c4' h.step)]; rfl
 have c4 : 1 ≤ s.Step ∧ s.Step ≤ 20000 := Decidable.not_not.1 c4'
 by_cases c5' : ¬ (0 ≤ r.Chip ∧ r.Chip ≤ 1000)
 ·rw [decide_eq_true c1, decide_eq_true c2, decide_eq_true c3, decide_eq_true c4, decide_eq_false c5', no (fun h => c5' h.chip)]; rfl
 have c5 : 0 ≤ r.Chip ∧ r.Chip ≤ 1000 := Decidable.not_not.1 c5'
 by_cases c6' : ¬ (0 ≤ r.Dust ∧ r.Dust ≤ 1000)
 ·rw [decide_eq_true c1, decide_eq_true c2, decide_eq_true c3, decide_eq_true c4, decide_eq_true c5, decide_eq_false c6', no (fun h => c6' h.dust)]; rfl
 have c6 : 0 ≤ r.Dust ∧ r.Dust ≤ 1000 := Decidable.not_not.1 c6'
 by_cases c7' : ¬ (0 ≤ r.Fine ∧ r.Fine ≤ 1000000)
 ·rw [decide_eq_true c1, decide_eq_true c2, decide_eq_true c3, decide_eq_true c4, decide_eq_true c5, decide_eq_true c6, decide_eq_false c7', no (fun h => c7' h.fine)]; rfl
 have c7 : 0 ≤ r.Fine ∧ r.Fine ≤ 1000000 := Decidable.not_not.1 c7'
 rw [decide_eq_true c1, decide_eq_true c2, decide_eq_true c3, decide_eq_true c4, decide_eq_true c5, decide_eq_true c6, decide_eq_true c7, (qAX s r).2 ⟨c1, c2, c3, c4, c5, c6, c7⟩]; rfl
theorem qKJ (b : Box) : GC b = some (empS b.X || (empS b.Y || empS b.Z)) := by
 unfold GC RK empS
 show (bif decide (b.X.B ≤ b.X.A) then _ else bif decide (b.Y.B ≤ b.Y.A) then _ else some (decide (b.Z.B ≤ b.Z.A))) = _
 cases decide (b.X.B ≤ b.X.A) <;> cases decide (b.Y.B ≤ b.Y.A) <;> rfl
theorem qNp {s : Span} (h : empS s = false) (a b : Int) : HP s a b = some (insS s a b) := by
 have h' : ¬ s.B ≤ s.A := of_decide_eq_false h
 unfold HP IP insS
 by_cases c1 : a ≤ s.A
 ·rw [decide_eq_true c1]
  simp only [cond_true]
  congr 1
  rw [decide_eq_decide]; omega
 ·rw [decide_eq_false c1, decide_eq_false (show ¬ ((a ≤ s.A ∧ a ≤ s.B) ∧ (s.A ≤ b ∧ s.B ≤ b)) from fun q => c1 q.1.1)]; rfl
theorem qOC {b : Box} (h : (empS b.X || (empS b.Y || empS b.Z)) = false) : NJ b = some (insS b.X (-600) 600 && (insS b.Y (-600) 600 && insS b.Z 0 20000)) := by
 have h1 : empS b.X = false := by cases e : empS b.X with | false => rfl | true => rw [e] at h; cases h
 have h2 : empS b.Y = false := by cases e : empS b.Y with | false => rfl | true => rw [h1, e] at h; cases h
 have h3 : empS b.Z = false := by cases e : empS b.Z with | false => rfl | true => rw [h1, h2, e] at h; cases h
 unfold NJ PB
 simp only [qNp h1, qNp h2, qNp h3, Option.bind_some]
 cases insS b.X (-600) 600 <;> cases insS b.Y (-600) 600 <;> rfl
theorem qKT (l : List Defect) : GD l = some (GV l) := by
 unfold GD GV
 by_cases h : 64 < l.length
 ·rw [if_pos h, decide_eq_true (by omega)]; rfl
 rw [if_neg h, decide_eq_false (by omega)]
 have L : yH l FUEL 0 = some (findE badD l) := by
  refine TL l (yH l) badD (by omega) (fun n x hx => ?_) (fun n => ?_)
  ·rw [yH, decide_eq_true (by omega), qV (by omega) (by omega)]
   simp only [cond_true, Int.toNat_natCast, zA (show x < 4611686018427387904 by omega), NQ, qKJ, Option.bind_some]
   rw [qV (by omega) (by omega)]
   unfold badD chkD
   by_cases h1 : (l.getD x default).Kind < 1
   ·rw [decide_eq_true h1, if_pos (.inl h1)]; rfl
   rw [decide_eq_false h1]
   by_cases h2 : (l.getD x default).Kind > 6
   ·rw [decide_eq_true h2, if_pos (.inr h2)]; rfl
   rw [decide_eq_false h2, if_neg (by omega)]
   simp only [cond_false, cond_true]
   cases he : (empS (l.getD x default).Box.X || (empS (l.getD x default).Box.Y || empS (l.getD x default).Box.Z)) with
   | true => rfl
   | false =>
    rw [qOC he]
    cases (insS (l.getD x default).Box.X (-600) 600 && (insS (l.getD x default).Box.Y (-600) 600 && insS (l.getD x default).Box.Z 0 20000)) <;> rfl
  ·rw [yH, decide_eq_false (by omega)]; rfl
 rw [L]
 simp only [cond_false, Option.bind_some]
 cases findE badD l <;> rfl
/-! ### Volumes -/
theorem qKB (s : qK) : GB s = some (PT s) := by
 unfold GB PT
 rw [(qD7 s).2]
 simp only [Option.bind_some]
 by_cases h : JE s = 0
 ·rw [h]; rfl
 ·have : (JE s != 0) = true := by simpa using h
  rw [this, if_neg h]; rfl
theorem qKu {x : Span} (y : Span) (h : rngS x = true) : TC x y = some (ml x y) := by
 have b := mx_b (y := y) h
 have a1 := JM x.A y.A
 have a2 := imin_or x.B y.B
 unfold TC GP YK
 simp only [Option.bind_some]
 unfold ml lenS empS mxS
 simp only
 by_cases c : imin x.B y.B ≤ imax x.A y.A
 ·rw [decide_eq_true c]
  cases decide (y.A ≥ y.B) <;> simp [c]
 ·rw [decide_eq_false c, decide_eq_false (show ¬ y.A ≥ y.B by omega)]
  rw [HA] at h
  simp only [cond_false]
  rw [qL (by omega) (by omega)]
theorem rhgt_eq {r : Int} (h1 : -60 ≤ r) (h2 : r < 60) : UU r = some (hgt r) := by
 unfold UU hgt
 rw [qL (n := r + 1) (by omega) (by omega), qL (by omega) (by omega), qL (by omega) (by omega)]
theorem qIG (s : qK) (R : Rect) : RX s R = some (zM (PT s) R.X R.Y) := by
 have h := qDH s
 unfold RX
 rw [qKB s]
 simp only [Option.bind_some]
 generalize PT s = t at *
 have b := h.len
 have b1 := h.low
 have b2 := h.high
 have pb : ∀ x, x < t.Rows.length → 0 ≤ ml (t.Rows.getD x default) R.X * ml (hgt (t.Low + x)) R.Y ∧ ml (t.Rows.getD x default) R.X * ml (hgt (t.Low + x)) R.Y ≤ 1440000 := fun x hx => by
  have m1 := ml_b R.X (h.rng _ (ZQ hx))
  have m2 := ml_b R.Y (qFI (r := t.Low + x) (by omega) (by omega))
  have := DW (a := ml (t.Rows.getD x default) R.X) (b := ml (hgt (t.Low + x)) R.Y) (m := 1200) (n := 1200) (by omega) (by omega) (by omega) (by omega) (by omega) (by omega)
  exact ⟨Int.mul_nonneg m1.1 m2.1, by omega⟩
 have k2 := JB t.Rows (fun n (a : Int) x => JR R t n a x) (fun x => (x : Int)) (fun x a s => s + ml a R.X * ml (hgt (t.Low + x)) R.Y) (fun s => s) (fun x s => 0 ≤ s ∧ s ≤ 1440000 * (x : Int)) (by omega)
  (fun n x a hx hi => by
   have p := pb x hx
   refine ⟨?_, by omega⟩
   rw [JR, decide_eq_true (show (x : Int) < _ by omega), qV (by omega) (by omega), zA (by omega), qL (n := t.Low + x) (by omega) (by omega), rhgt_eq (r := t.Low + x) (by omega) (by omega)]
   simp only [cond_true, Int.toNat_natCast, Option.bind_some]
   rw [qKu R.X (h.rng _ (ZQ hx)), qKu R.Y (qFI (r := t.Low + x) (by omega) (by omega))]
   simp only [Option.bind_some]
   rw [qL (n := _ * _) (by omega) (by omega), qL (by omega) (by omega)])
  (fun n a _ => by rw [JR]; simp) (i := 0) rfl 0 (by omega)
 rw [NE (fun x a => ml a R.X * ml (hgt (t.Low + x)) R.Y)] at k2
 have e := qDP h (fun r a => ml a R.X * ml (hgt r) R.Y) (fun r => by
  have : ml ⟨0, 0⟩ R.X = 0 := by have := ml_b (x := ⟨0, 0⟩) R.X rfl; have e : lenS ⟨0, 0⟩ = 0 := rfl; omega
  rw [this]; simp)
 simp only [Nat.zero_add, Int.zero_add] at k2
 rw [e] at k2
 rw [k2.1]; rfl
theorem qKM {l : List Slice} (h : VSol l) {i : Nat} (hi : i < l.length) (z : Span) : NY ⟨imax z.A 0, imin z.B 20000⟩ (qZ l i) (l.getD i default).Len = some (ml (ext l i) z) := by
 have b := h.bd (i := i) (by omega)
 have b' := h.bd (i := i + 1) (by omega)
 have at' := (h.at hi).2.2
 rw [zH] at b'
 unfold NY
 rw [qL (n := qZ l i + (l.getD i default).Len) (by omega) (by omega), qIg]
 rw [show (ext l i).A = qZ l i from rfl, show (ext l i).B = qZ l i + (l.getD i default).Len from zH l i]
 have a1 := JM z.A 0
 have a2 := imin_or z.B 20000
 have a3 := JM (imax z.A 0) (qZ l i)
 have a4 := imin_or (imin z.B 20000) (qZ l i + (l.getD i default).Len)
 have a5 := JM (qZ l i) z.A
 have a6 := imin_or (qZ l i + (l.getD i default).Len) z.B
 simp only
 by_cases c : imax (imax z.A 0) (qZ l i) ≥ imin (imin z.B 20000) (qZ l i + (l.getD i default).Len)
 ·rw [decide_eq_true c, if_pos (by omega)]; rfl
 ·rw [decide_eq_false c, if_neg (by omega), qL (by omega) (by omega)]
  simp only [cond_false]
  congr 1
  omega
theorem qIO {x y : Span} (h : y.B ≤ y.A) : ml x y = 0 := by
 rw [qIg]
 have a5 := JM x.A y.A
 have a6 := imin_or x.B y.B
 rw [if_pos (by omega)]
theorem qHi (l : List Slice) {x y z : Span} (h : x.B ≤ x.A ∨ y.B ≤ y.A ∨ z.B ≤ z.A) : volS l x y z = 0 := by
 unfold volS
 refine HU (fun i _ => ?_)
 rcases h with h | h | h
 ·have : zM (l.getD i default).Sec x y = 0 := by unfold zM; exact HU (fun j _ => by simp only; rw [qIO h]; simp)
  rw [this]; simp
 ·have : zM (l.getD i default).Sec x y = 0 := by unfold zM; exact HU (fun j _ => by simp only; rw [qIO h]; simp)
  rw [this]; simp
 ·rw [qIO h]; simp
theorem CE {l : List Slice} (h : VSol l) (b : Box) : JA l b = some (volS l b.X b.Y b.Z) := by
 have hl := h.len
 unfold JA
 rw [(TV l).2, (YG l).2 h]
 simp only [Option.bind_some, bne_self_eq_false, cond_false]
 have K : ∀ q, (q = true → volS l b.X b.Y b.Z = 0) → ZA l b q = some (volS l b.X b.Y b.Z) := fun q hq => by
  unfold ZA
  cases q with
  | true => rw [hq rfl]; rfl
  | false =>
   have k := QB l.length (fun n (s : Int × Int) i => yS l b n s.1 s.2 i) (fun i s => (s.1 + ml (ext l i) b.Z * zM (l.getD i default).Sec b.X b.Y, qZ l (i + 1))) (fun s => s.1)
    (fun i s => s.1 = sumN i (fun i => ml (ext l i) b.Z * zM (l.getD i default).Sec b.X b.Y) ∧ s.2 = qZ l i) 0 (by omega) (by omega)
    (fun n i s hi hs => by
     obtain ⟨s1, s2⟩ := s
     obtain ⟨e1, e2⟩ := hs
     simp only at e1 e2
     have p := qDX h b.X b.Y b.Z (k := i) (by omega)
     have t := qGx h b.X b.Y b.Z hi
     have bd := h.bd (i := i) (by omega)
     have at' := (h.at hi).2.2
     rw [zH] at at'
     refine ⟨?_, by simp only; rw [e1]; rfl, rfl⟩
     simp only
     rw [yS, decide_eq_true (by omega), qV (by omega) (by omega)]
     simp only [cond_true, Int.toNat_natCast, zA (show i < 4611686018427387904 by omega), e2, qKM h hi b.Z, Option.bind_some, DA, qIG]
     rw [AV (h.at hi).1, qL (n := qZ l i + (l.getD i default).Len) (by omega) (by omega), ← zH]
     by_cases c : ml (ext l i) b.Z > 0
     ·rw [decide_eq_true c]
      simp only [cond_true]
      rw [qL (n := ml (ext l i) b.Z * zM (l.getD i default).Sec b.X b.Y) (by omega) (by omega), qL (by omega) (by omega)]
     ·have z : ml (ext l i) b.Z = 0 := by have := qFB (ext l i) b.Z; omega
      rw [decide_eq_false c, z]
      simp)
    (fun n s _ => by
     try simp only
     rw [yS, decide_eq_false (by omega)]; rfl) (0, 0) ⟨rfl, rfl⟩
   rw [show ((0 : Nat) : Int) = 0 from rfl, Nat.sub_zero] at k
   simp only at k
   rw [k.1, k.2.1]
   rfl
 by_cases c1 : b.X.A ≥ b.X.B
 ·rw [decide_eq_true c1]; exact K true (fun _ => qHi l (.inl c1))
 rw [decide_eq_false c1]
 by_cases c2 : b.Y.A ≥ b.Y.B
 ·rw [decide_eq_true c2]; exact K true (fun _ => qHi l (.inr (.inl c2)))
 rw [decide_eq_false c2]
 exact K _ (fun q => qHi l (.inr (.inr (of_decide_eq_true q))))
theorem qKx (p : Product) (n : Int) (h : p.Lengths.length ≤ 1000000) : VO p n = some (price p n) := by
 unfold VO price
 have L : WI p n FUEL ((0 : Nat) : Int) = some (findN (priceAt p n) 0 (p.Lengths.length - 0)) := by
  refine ZE p.Lengths.length (WI p n) _ 0 (by omega) (by omega) (fun m i hi hN => ?_) (fun m => ?_)
  ·rw [WI, decide_eq_true (by omega), qV (by omega) (by omega)]
   simp only [cond_true, Int.toNat_natCast, zA (show i < 4611686018427387904 by omega), priceAt]
   by_cases c : p.Lengths.getD i default ≠ n
   ·rw [if_pos c, show (p.Lengths.getD i default == n) = false by rw [beq_eq_false_iff_ne]; exact c]; rfl
   rw [if_neg c, show (p.Lengths.getD i default == n) = true by rw [beq_iff_eq]; omega]
   by_cases c2 : p.Prices.length ≤ i
   ·rw [if_pos c2, decide_eq_true (show (i : Int) ≥ ((p.Prices.length : Nat) : Int) by omega)]; rfl
   ·rw [if_neg c2, decide_eq_false (show ¬ (i : Int) ≥ ((p.Prices.length : Nat) : Int) by omega), qV (by omega) (by omega)]; rfl
  ·rw [WI, decide_eq_false (by omega)]; rfl
 rw [show ((0 : Nat) : Int) = 0 from rfl, Nat.sub_zero] at L
 rw [L]
 simp only [Option.bind_some]
 cases findN (priceAt p n) 0 p.Lengths.length <;> rfl
theorem qRe (x y : Span) : UH x y = some (nrm (mxS x y)) := by
 unfold UH nrm mxS empS
 simp only
 show (bif decide (imin x.B y.B ≤ imax x.A y.A) then _ else _) = _
 cases decide (imin x.B y.B ≤ imax x.A y.A) <;> rfl
theorem qGo (d : Defect) (b : Box) : XZ d b = some (tch d.Box b) := by
 unfold XZ qAK tch
 simp only [qRe, Option.bind_some, qKJ, qJA]
/-! ### Defects near a rectangle -/
def wdL (b : Box) (fine : Int) : List Defect → Int → (Int × Bool) ⊕ Int
 | [], v => .inr v
 | d :: ds, v => bif tch d.Box b then (bif d.Kind == 3 then .inl (0, false) else wdL b fine ds (v - fine)) else wdL b fine ds v
theorem qFN (ds : List Defect) (b : Box) (fine : Int) : ∀ (k x : Nat) (v : Int), x + k = ds.length → runN (dstep ds b fine) x k v = wdL b fine (ds.drop x) v
 | 0, x, v, h => by rw [List.drop_eq_nil_of_le (by omega)]; rfl
 | k + 1, x, v, h => by
  rw [OO ds x (by omega)]
  unfold runN wdL dstep
  cases tch (ds.getD x default).Box b with
  | false => exact qFN ds b fine k (x + 1) v (by omega)
  | true => cases (ds.getD x default).Kind == 3 with
   | true => rfl
   | false => exact qFN ds b fine k (x + 1) (v - fine) (by omega)
theorem qNF (ds : List Defect) (b : Box) : near ds b = ds.filter (fun d => tch d.Box b) := by
 unfold near
 have key : ∀ k, k ≤ ds.length → jS (fun i t => bif tch (ds.getD i default).Box b then t ++ [ds.getD i default] else t) 0 k ([] : List Defect) = (ds.take k).filter (fun d => tch d.Box b) := by
  intro k
  induction k with
  | zero => intro _; rfl
  | succ k ih =>
   intro hk
   have tk : ds.take (k + 1) = ds.take k ++ [ds.getD k default] := by rw [List.take_add_one, List.getD_eq_getElem?_getD, List.getElem?_eq_getElem (by omega)]; rfl
   rw [TZ, ih (by omega), Nat.zero_add, tk, List.filter_append]
   generalize ds.getD k default = d
   cases h : tch d.Box b <;> simp [List.filter, h]
 rw [key _ (Nat.le_refl _), List.take_length]
theorem qAQ {b W : Box} (fine : Int) (h : ∀ d : Box, tch d b = true → tch d W = true) : ∀ (ds : List Defect) (v : Int), wdL b fine (ds.filter (fun d => tch d.Box W)) v = wdL b fine ds v
 | [], v => rfl
 | d :: ds, v => by
  cases hW : tch d.Box W with
  | true =>
   rw [List.filter_cons, hW]
   simp only [if_true]
   unfold wdL
   rw [qAQ fine h ds, qAQ fine h ds]
  | false =>
   have hb : tch d.Box b = false := by cases e : tch d.Box b with | false => rfl | true => rw [h _ e] at hW; cases hW
   rw [List.filter_cons, hW]
   simp only [Bool.false_eq_true, if_false]
   rw [qAQ fine h ds]
   conv => rhs; unfold wdL
   rw [hb]; rfl
theorem qGt {ds : List Defect} {b W : Box} (fine v : Int) (h : ∀ d : Box, tch d b = true → tch d W = true) : PA (near ds W) b fine v = PA ds b fine v := by
 unfold PA
 rw [qFN _ _ _ _ 0 _ (by omega), qFN _ _ _ _ 0 _ (by omega), List.drop_zero, List.drop_zero, qNF, qAQ fine h]
theorem qOk {x y s : Span} {n : Int} (h1 : 0 ≤ s.A) (h2 : s.B ≤ n) (d : Box) : tch d ⟨x, y, s⟩ = true → tch d ⟨x, y, ⟨0, n⟩⟩ = true := by
 unfold tch
 simp only
 have e : empS (mxS d.Z s) = false → empS (mxS d.Z ⟨0, n⟩) = false := fun h => by
  have h' : ¬ imin d.Z.B s.B ≤ imax d.Z.A s.A := of_decide_eq_false h
  have a1 := imin_or d.Z.B s.B
  have a2 := JM d.Z.A s.A
  have a3 := imin_or d.Z.B n
  have a4 := JM d.Z.A 0
  refine decide_eq_false (show ¬ imin d.Z.B n ≤ imax d.Z.A 0 from ?_)
  omega
 cases empS (mxS d.X x) <;> cases empS (mxS d.Y y) <;> cases hz : empS (mxS d.Z s) <;> simp
 exact e hz
def bad3 (ds : List Defect) (b : Box) (i : Nat) : Option Bool := bif (ds.getD i default).Kind == 3 && tch (ds.getD i default).Box b then some false else none
def qCh (ds : List Defect) (b : Box) (fine : Int) (i : Nat) (v : Int) : Int := bif tch (ds.getD i default).Box b then v - fine else v
theorem qCm (ds : List Defect) (b : Box) (fine : Int) : ∀ (k x : Nat) (v : Int), runN (dstep ds b fine) x k v = match findN (bad3 ds b) x k with | .inl _ => .inl (0, false) | .inr _ => .inr (jS (qCh ds b fine) x k v)
 | 0, x, v => rfl
 | k + 1, x, v => by
  unfold runN findN jS
  cases h1 : tch (ds.getD x default).Box b with
  | false =>
   have e1 : dstep ds b fine x v = .inr v := by unfold dstep; rw [h1]; rfl
   have e2 : bad3 ds b x = none := by unfold bad3; rw [h1, Bool.and_false]; rfl
   have e3 : qCh ds b fine x v = v := by unfold qCh; rw [h1]; rfl
   rw [e1, e2, e3]
   exact qCm ds b fine k (x + 1) v
  | true => cases h2 : (ds.getD x default).Kind == 3 with
   | true =>
    have e1 : dstep ds b fine x v = .inl (0, false) := by unfold dstep; rw [h1, h2]; rfl
    have e2 : bad3 ds b x = some false := by unfold bad3; rw [h1, h2]; rfl
    rw [e1, e2]
   | false =>
    have e1 : dstep ds b fine x v = .inr (v - fine) := by unfold dstep; rw [h1, h2]; rfl
    have e2 : bad3 ds b x = none := by unfold bad3; rw [h1, h2]; rfl
    have e3 : qCh ds b fine x v = v - fine := by unfold qCh; rw [h1]; rfl
    rw [e1, e2, e3]
    exact qCm ds b fine k (x + 1) (v - fine)
theorem qOu (ds : List Defect) (b : Box) : ∀ (k x : Nat) (e : Bool), findN (bad3 ds b) x k = .inl e → e = false := by
 intro k x e h
 obtain ⟨i, _, _, c, _⟩ := WT h
 unfold bad3 at c
 cases hc : (ds.getD i default).Kind == 3 && tch (ds.getD i default).Box b with
 | true => rw [hc] at c; cases c; rfl
 | false => rw [hc] at c; cases c
/-! ### Wane -/
theorem hit_ml {l : List Slice} (h : VSol l) {i : Nat} (hi : i < l.length) {s : Span} (hs : s.A < s.B) : decide (ml (ext l i) s > 0) = hitZ (ext l i) s := by
 have at' := (h.at hi).2.2
 have e2 : (ext l i).B = qZ l i + (l.getD i default).Len := zH l i
 have e1 : (ext l i).A = qZ l i := rfl
 unfold hitZ
 rw [qIg, e1, e2]
 have a1 := imin_or (qZ l i + (l.getD i default).Len) s.B
 have a2 := JM (qZ l i) s.A
 rw [Bool.eq_iff_iff]
 simp only [decide_eq_true_eq, Bool.and_eq_true]
 split <;> omega
def cutL (l : List Slice) (s : Span) (k : Nat) : List Slice := (List.range k).filterMap (fun i => if ml (ext l i) s > 0 then some ⟨ml (ext l i) s, (l.getD i default).Sec⟩ else none)
theorem qE3 (l : List Slice) (s : Span) (k : Nat) : cutL l s (k + 1) = if ml (ext l k) s > 0 then cutL l s k ++ [⟨ml (ext l k) s, (l.getD k default).Sec⟩] else cutL l s k := by
 unfold cutL
 rw [List.range_succ, List.filterMap_append]
 by_cases c : ml (ext l k) s > 0
 ·rw [if_pos c]; simp [c]
 ·rw [if_neg c]; simp [c]
theorem qHa (l : List Slice) (s : Span) : ∀ k, (cutL l s k).length ≤ k
 | 0 => by simp [cutL]
 | k + 1 => by
  have := qHa l s k
  rw [qE3]
  split <;> simp <;> omega
theorem Cut_eq {l : List Slice} (h : VSol l) (s : Span) : OB l s = some (cutL l s l.length) := by
 have hl := h.len
 unfold OB
 rw [(TV l).2, (YG l).2 h]
 simp only [Option.bind_some, bne_self_eq_false, cond_false]
 have k := QB l.length (fun n (t : List Slice × Int) i => WW l s n t.1 t.2 i) (fun i t => (cutL l s (i + 1), qZ l (i + 1))) (fun t => t.1)
  (fun i t => t.1 = cutL l s i ∧ t.2 = qZ l i) 0 (by omega) (by omega)
  (fun n i t hi ht => by
   obtain ⟨t1, t2⟩ := t
   obtain ⟨e1, e2⟩ := ht
   simp only at e1 e2
   have bd := h.bd (i := i) (by omega)
   have at' := (h.at hi).2.2
   rw [zH] at at'
   refine ⟨?_, rfl, rfl⟩
   simp only
   rw [WW, decide_eq_true (by omega), qV (by omega) (by omega)]
   simp only [cond_true, Int.toNat_natCast, zA (show i < 4611686018427387904 by omega), e2, qKM h hi s, Option.bind_some, EH]
   rw [qL (n := qZ l i + (l.getD i default).Len) (by omega) (by omega), ← zH, qE3]
   have cl := qHa l s i
   by_cases c : ml (ext l i) s > 0
   ·rw [decide_eq_true c, if_pos c, YD (by rw [e1]; omega) (by omega), e1]; rfl
   ·rw [decide_eq_false c, if_neg c, e1]; rfl)
  (fun n t _ => by rw [WW, decide_eq_false (by omega)]; rfl) ([], 0) ⟨rfl, rfl⟩
 rw [show ((0 : Nat) : Int) = 0 from rfl, Nat.sub_zero] at k
 simp only at k
 rw [k.1, k.2.1]; rfl
theorem qQD {l : List Slice} {s : Span} {k : Nat} : ∀ x ∈ cutL l s k, ∃ i, i < k ∧ x.Sec = (l.getD i default).Sec := by
 intro x hx
 unfold cutL at hx
 rw [List.mem_filterMap] at hx
 obtain ⟨i, hi, e⟩ := hx
 refine ⟨i, by simpa using hi, ?_⟩
 split at e
 ·cases e; rfl
 ·cases e
theorem wane_eq {l : List Slice} (h : VSol l) {r : Rect} (hr : VR r) {s : Span} (hs : s.A < s.B) : EG l ⟨r.X, r.Y, s⟩ = some (worst (zones l r) s) := by
 have hl := h.len
 have ha := qOi hr
 have eA : w64 (w64 (r.X.B - r.X.A) * w64 (r.Y.B - r.Y.A)) = QN r := by
  have hr' := hr
  unfold VR at hr'
  rw [qL (n := r.X.B - r.X.A) (by omega) (by omega), qL (n := r.Y.B - r.Y.A) (by omega) (by omega)]
  unfold QN at ha ⊢
  exact qL (by omega) (by omega)
 unfold EG
 rw [Cut_eq h]
 simp only [Option.bind_some]
 have cl := qHa l s l.length
 have k := JB (cutL l s l.length) (fun n (m : Int) i => KG ⟨r.X, r.Y, s⟩ (cutL l s l.length) n m i) (fun x => (x : Int)) (fun _ a m => imax m (FC (QN r) (zM a.Sec r.X r.Y))) (fun m => m) (fun _ _ => True) (by omega)
  (fun n x m hx _ => by
   refine ⟨?_, trivial⟩
   obtain ⟨i, hi, es⟩ := qQD _ (ZQ hx)
   have vs := (h.at hi).1
   rw [KG, decide_eq_true (by omega), qV (by omega) (by omega)]
   simp only [cond_true, Int.toNat_natCast, zA (show x < 4611686018427387904 by omega), qIG, Option.bind_some, eA, es]
   have wb := qG9 vs r.X r.Y
   rw [AV vs, nz_t (by omega), qL (n := QN r - zM (l.getD i default).Sec r.X r.Y) (by omega) (by omega), qL (n := 1000 * _) (by omega) (by omega), qL (n := 1000 * _ + _) (by omega) (by omega), qL (n := 1000 * _ + _ - 1) (by omega) (by omega)]
   simp only [cond_true]
   have tb : -2000000000 ≤ FC (QN r) (zM (l.getD i default).Sec r.X r.Y) ∧ FC (QN r) (zM (l.getD i default).Sec r.X r.Y) ≤ 2000000000 := by
    unfold FC
    generalize hu : 1000 * (QN r - zM (l.getD i default).Sec r.X r.Y) + QN r - 1 = u
    have hub : -1440000000 ≤ u ∧ u ≤ 1441440000 := by omega
    have ab := Int.natAbs_tdiv_le_natAbs u (QN r)
    omega
   unfold FC at tb ⊢
   rw [qL (by omega) (by omega)])
  (fun n m _ => by rw [KG, decide_eq_false (by omega)]; rfl) (i := 0) rfl 0 trivial
 rw [k.1, qGi]
 simp only [Option.bind_some]
 unfold worst
 rw [qKg]
 have key : ∀ j, j ≤ l.length → (cutL l s j).foldl (fun m a => imax m (FC (QN r) (zM a.Sec r.X r.Y))) 0 = jS (fun i m => bif hitZ ((zones l r).getD i default).z s then imax m ((zones l r).getD i default).lack else m) 0 j 0 := by
  intro j
  induction j with
  | zero => intro _; rfl
  | succ j ih =>
   intro hj
   have hz : (zones l r).getD j default = ⟨ext l j, FC (QN r) (zM (l.getD j default).Sec r.X r.Y)⟩ := by unfold zones; exact qEb _ (by omega)
   rw [TZ, ← ih (by omega), Nat.zero_add, hz, qE3]
   simp only
   rw [← hit_ml h (by omega) hs]
   by_cases c : ml (ext l j) s > 0
   ·rw [if_pos c, decide_eq_true c, List.foldl_append]; rfl
   ·rw [if_neg c, decide_eq_false c]; rfl
 rw [key _ (Nat.le_refl _)]
/-! ### The reference's pieces -/
theorem qKL {x : Span} (h : -600 ≤ x.A ∧ x.A < x.B ∧ x.B ≤ 600) : RQ x = some true := by
 unfold RQ KO
 rw [decide_eq_true (show x.A ≥ -600 by omega), decide_eq_true h.2.1, decide_eq_true h.2.2]; rfl
theorem qQa {l : List Slice} (h : VSol l) {r : Rect} (hr : VR r) (s : Span) : BR l ⟨r.X, r.Y, s⟩ = some (decide (0 ≤ s.A ∧ s.A < s.B ∧ s.B ≤ zI l)) := by
 unfold BR QY
 rw [qKL hr.1, qKL hr.2, (BG l).2, VZ h]
 simp only [Option.bind_some, cond_true]
 by_cases c1 : s.A ≥ 0
 ·rw [decide_eq_true c1]
  by_cases c2 : s.A < s.B
  ·rw [decide_eq_true c2]
   simp only [cond_true]
   congr 1
   rw [decide_eq_decide]; omega
  ·rw [decide_eq_false c2, decide_eq_false (show ¬ (0 ≤ s.A ∧ s.A < s.B ∧ s.B ≤ zI l) by omega)]; rfl
 ·rw [decide_eq_false c1, decide_eq_false (show ¬ (0 ≤ s.A ∧ s.A < s.B ∧ s.B ≤ zI l) by omega)]; rfl
theorem qPm {l : List Slice} (h : VSol l) {ds : List Defect} (hd : ds.length ≤ 64) {p : Product} (hv : VP p) {r : Rect} (hr : VR r) (fine : Int) (s : Span) : BZ l ds p ⟨r.X, r.Y, s⟩ = some (dimOk r p && (worthV (viewOf l ds p r) s fine).2) := by
 have hr' := hr
 unfold VR at hr'
 have hll := hv.ll
 have sb := MZ h
 unfold BZ
 rw [qQa h hr]
 simp only [Option.bind_some]
 unfold worthV
 rw [show (viewOf l ds p r).length = zI l from rfl]
 by_cases c' : ¬ (0 ≤ s.A ∧ s.A < s.B ∧ s.B ≤ zI l)
 ·rw [decide_eq_false c', if_neg c', Bool.and_false]; rfl
 have c : 0 ≤ s.A ∧ s.A < s.B ∧ s.B ≤ zI l := Decidable.not_not.1 c'
 rw [decide_eq_true c, if_pos c, (IK p).2, qL (n := s.B - s.A) (by omega) (by omega), qKx p _ (by omega), qL (n := r.X.B - r.X.A) (by omega) (by omega), qL (n := r.Y.B - r.Y.A) (by omega) (by omega)]
 simp only [Option.bind_some, Bool.not_true, cond_false]
 rw [show (viewOf l ds p r).product = p from rfl, show (viewOf l ds p r).zones = zones l r from rfl, show (viewOf l ds p r).rect = r from rfl, show (viewOf l ds p r).defects = near ds ⟨r.X, r.Y, ⟨0, zI l⟩⟩ from rfl, qGt fine _ (qOk c.1 c.2.2)]
 have K : wH l ds p ⟨r.X, r.Y, s⟩ false = some ((if worst (zones l r) s > p.Wane then ((0 : Int), false) else PA ds ⟨r.X, r.Y, s⟩ fine (price p (s.B - s.A)).1).2) := by
  unfold wH
  have L : jQ ds ⟨r.X, r.Y, s⟩ FUEL ((0 : Nat) : Int) = some (findN (bad3 ds ⟨r.X, r.Y, s⟩) 0 (ds.length - 0)) := by
   refine ZE ds.length (jQ ds ⟨r.X, r.Y, s⟩) _ 0 (by omega) (by omega) (fun m i hi hN => ?_) (fun m => ?_)
   ·rw [jQ, decide_eq_true (by omega), qV (by omega) (by omega)]
    simp only [cond_true, Int.toNat_natCast, zA (show i < 4611686018427387904 by omega), qGo, Option.bind_some, GW, bad3]
    cases (ds.getD i default).Kind == 3 <;> cases tch (ds.getD i default).Box ⟨r.X, r.Y, s⟩ <;> rfl
   ·rw [jQ, decide_eq_false (by omega)]; rfl
  rw [show ((0 : Nat) : Int) = 0 from rfl, Nat.sub_zero] at L
  rw [L, wane_eq h hr c.2.1]
  unfold PA
  rw [qCm]
  simp only [cond_false, Option.bind_some]
  cases hf : findN (bad3 ds ⟨r.X, r.Y, s⟩) 0 ds.length with
  | inl e =>
   rw [qOu _ _ _ _ _ hf]
   simp only [Sum.elim_inl]
   split <;> rfl
  | inr u =>
   simp only [Sum.elim_inr]
   by_cases c4 : worst (zones l r) s > p.Wane
   ·rw [if_pos c4, decide_eq_false (by omega)]
   ·rw [if_neg c4, decide_eq_true (by omega)]
 have KT : wH l ds p ⟨r.X, r.Y, s⟩ true = some false := rfl
 have KB : ∀ q, wH l ds p ⟨r.X, r.Y, s⟩ q = some (!q && ((if worst (zones l r) s > p.Wane then ((0 : Int), false) else PA ds ⟨r.X, r.Y, s⟩ fine (price p (s.B - s.A)).1).2)) := fun q => by
  cases q with
  | true => exact KT
  | false => rw [K]; rfl
 simp only [KB]
 cases hq : (price p (s.B - s.A)).2 with
 | false => simp only [Bool.not_false, cond_true, Bool.not_true, Bool.false_and, cond_false, Bool.and_false]
 | true =>
  simp only [Bool.not_true, cond_false, cond_true, dimOk]
  generalize (if worst (zones l r) s > p.Wane then ((0 : Int), false) else PA ds ⟨r.X, r.Y, s⟩ fine (price p (s.B - s.A)).1).2 = W
  cases r.X.B - r.X.A == (zY p).1 <;> cases r.Y.B - r.Y.A == (zY p).2 <;> cases r.X.B - r.X.A == (zY p).2 <;> cases r.Y.B - r.Y.A == (zY p).1 <;> rfl
theorem qPT {l : List Slice} (h : VSol l) {ds : List Defect} (hd : ds.length ≤ 64) {p : Product} (hv : VP p) {r : Rect} {fine : Int} (hf : 0 ≤ fine ∧ fine ≤ 1000000) {s : Span} (ha : (worthV (viewOf l ds p r) s fine).2 = true) : LU ds p ⟨r.X, r.Y, s⟩ fine = some (worthV (viewOf l ds p r) s fine).1 := by
 have hll := hv.ll
 have sb := MZ h
 unfold LU
 unfold worthV at ha ⊢
 rw [show (viewOf l ds p r).length = zI l from rfl] at ha ⊢
 by_cases c' : ¬ (0 ≤ s.A ∧ s.A < s.B ∧ s.B ≤ zI l)
 ·rw [if_neg c'] at ha; cases ha
 have c : 0 ≤ s.A ∧ s.A < s.B ∧ s.B ≤ zI l := Decidable.not_not.1 c'
 rw [if_pos c] at ha ⊢
 rw [show (viewOf l ds p r).product = p from rfl, show (viewOf l ds p r).zones = zones l r from rfl, show (viewOf l ds p r).rect = r from rfl, show (viewOf l ds p r).defects = near ds ⟨r.X, r.Y, ⟨0, zI l⟩⟩ from rfl, qGt fine _ (qOk c.1 c.2.2)] at ha ⊢
 rw [qL (n := s.B - s.A) (by omega) (by omega), qKx p _ (by omega)]
 simp only [Option.bind_some]
 have pb := qI5 hv (s.B - s.A)
 cases hq : (price p (s.B - s.A)).2 with
 | false => rw [hq] at ha; cases ha
 | true =>
  rw [hq] at ha
  simp only [cond_true] at ha ⊢
  by_cases c4 : worst (zones l r) s > p.Wane
  ·rw [if_pos c4] at ha; cases ha
  rw [if_neg c4] at ha ⊢
  have k := QB ds.length (fun n (v : Int) i => QI ds ⟨r.X, r.Y, s⟩ fine n v i) (qCh ds ⟨r.X, r.Y, s⟩ fine) (fun v => v) (fun i v => -(1000000 * (i : Int)) ≤ v ∧ v ≤ 1000000) 0 (by omega) (by omega)
   (fun n i v hi hv' => by
    refine ⟨?_, ?_⟩
    ·rw [QI, decide_eq_true (by omega), qV (by omega) (by omega)]
     simp only [cond_true, Int.toNat_natCast, zA (show i < 4611686018427387904 by omega), qGo, Option.bind_some, FB, qCh]
     rw [qL (n := v - fine) (by omega) (by omega)]
     cases tch (ds.getD i default).Box ⟨r.X, r.Y, s⟩ <;> rfl
    ·unfold qCh
     cases tch (ds.getD i default).Box ⟨r.X, r.Y, s⟩ with
     | true => simp only [cond_true]; omega
     | false => simp only [cond_false]; omega)
   (fun n v _ => by rw [QI, decide_eq_false (by omega)]; rfl) (price p (s.B - s.A)).1 (by omega)
  rw [show ((0 : Nat) : Int) = 0 from rfl, Nat.sub_zero] at k
  rw [k.1]
  unfold PA at ha ⊢
  rw [qCm] at ha ⊢
  cases hf2 : findN (bad3 ds ⟨r.X, r.Y, s⟩) 0 ds.length with
  | inl e => rw [hf2] at ha; cases ha
  | inr u =>
   simp only [Option.bind_some]
   congr 1
   unfold imax
   split <;> split <;> omega
theorem qOA {l : List Slice} (h : VSol l) {ds : List Defect} (hd : ds.length ≤ 64) {p : Product} (hv : VP p) {r : Rect} (hr : VR r) {fine z : Int} (hf : 0 ≤ fine ∧ fine ≤ 1000000) (h0 : 0 ≤ z) (h1 : z ≤ 20000) (st : Int × Bool × Span) :
  jG l ds p r fine z FUEL st.1 st.2.1 0 st.2.2 = some (bif dimOk r p then qBX (viewOf l ds p r) fine z st else st) := by
 have hll := hv.ll
 have k := QB p.Lengths.length (fun n (s : Int × Bool × Span) i => jG l ds p r fine z n s.1 s.2.1 i s.2.2) (fun i st => bif dimOk r p then LQ st (worthV (viewOf l ds p r) (spanAt p z i) fine) (spanAt p z i) else st) (fun s => s) (fun _ _ => True) 0 (by omega) (by omega)
  (fun n i s hi _ => ⟨by
   obtain ⟨s1, s2, s3⟩ := s
   have lb := hv.lb i hi
   try simp only
   rw [jG, decide_eq_true (by omega), qV (by omega) (by omega)]
   simp only [cond_true, Int.toNat_natCast, zA (show i < 4611686018427387904 by omega)]
   rw [qL (n := z + p.Lengths.getD i default) (by omega) (by omega)]
   rw [show (Box.mk r.X r.Y ⟨z, z + p.Lengths.getD i default⟩) = ⟨r.X, r.Y, spanAt p z i⟩ from rfl, qPm h hd hv hr fine]
   simp only [Option.bind_some]
   cases hdm : dimOk r p with
   | false => simp only [Bool.false_and, Bool.not_false, cond_true, cond_false, JX, zA (show i < 4611686018427387904 by omega)]
   | true =>
    simp only [Bool.true_and, cond_true]
    cases ha : (worthV (viewOf l ds p r) (spanAt p z i) fine).2 with
    | false =>
     have : LQ (s1, s2, s3) (worthV (viewOf l ds p r) (spanAt p z i) fine) (spanAt p z i) = (s1, s2, s3) := by unfold LQ; rw [ha]; rfl
     rw [this]
     simp only [Bool.not_false, cond_true, JX, zA (show i < 4611686018427387904 by omega)]
    | true =>
     rw [qPT h hd hv hf ha]
     simp only [Option.bind_some, Bool.not_true, cond_false, MM, JX, LQ, Int.toNat_natCast, zA (show i < 4611686018427387904 by omega)]
     rw [ha, qL (n := z + p.Lengths.getD i default) (by omega) (by omega)]
     cases s2 <;> cases decide ((worthV (viewOf l ds p r) (spanAt p z i) fine).1 > s1) <;> rfl, trivial⟩)
  (fun n s _ => by rw [jG, decide_eq_false (by omega)]; rfl) st trivial
 rw [show ((0 : Nat) : Int) = 0 from rfl, Nat.sub_zero] at k
 rw [k.1]
 cases dimOk r p with
 | true => rfl
 | false =>
  have : ∀ m, jS (fun i (st : Int × Bool × Span) => bif false then LQ st (worthV (viewOf l ds p r) (spanAt p z i) fine) (spanAt p z i) else st) 0 m st = st := fun m => by
   induction m with
   | zero => rfl
   | succ m ih => rw [TZ, ih]; rfl
  rw [this]; rfl
theorem qQj {l : List Slice} {ds : List Defect} {p : Product} {r : Rect} {step fine : Int} (hs : VSol l) (hd : GV ds = 0) (hp : yV [p] = 0) (hv : VP p) (hr : VR r) (hst : 1 ≤ step ∧ step ≤ 20000) (hf : 0 ≤ fine ∧ fine ≤ 1000000) :
  SU l ds p r step fine = some ((bestR l ds p r step fine).2.2, (bestR l ds p r step fine).1, (bestR l ds p r step fine).2.1) := by
 have hdl := ((qDU ds).1 hd).1
 have sb := MZ hs
 unfold SU UZ IU RH
 rw [qHg, qHg, decide_eq_true hst, decide_eq_true hf, (TV l).2, (YG l).2 hs, qKT, hd, qES, hp]
 simp only [Option.bind_some, Bool.not_true, cond_false, beq_self_eq_true, cond_true]
 have hN : BX (zI l) step ≤ 1000000000 := by
  unfold BX
  have := Int.ediv_le_self step (show 0 ≤ zI l + step - 1 by omega)
  omega
 have k := qHK (BX (zI l) step) (fun n (s : Int × Bool × Span) (z : Int) => KA l ds p r step fine n s.1 s.2.1 z s.2.2) (fun k => (k : Int) * step) (fun k st => bif dimOk r p then qBX (viewOf l ds p r) fine ((k : Int) * step) st else st) (fun s => s) (fun _ _ => True) hN
  (fun n i s hi _ => ⟨by
   have h1 := (qCl (by omega) hst.1).1 hi
   have h0 : 0 ≤ (i : Int) * step := Int.mul_nonneg (by omega) (by omega)
   have e : (i : Int) * step + step = ((i + 1 : Nat) : Int) * step := by rw [Int.natCast_add, Int.add_mul]; simp
   try simp only
   rw [KA, (BG l).2, VZ hs]
   simp only [Option.bind_some]
   rw [decide_eq_true h1, qOA hs hdl hv hr hf h0 (by omega) s, qL (by omega) (by omega), e]
   rfl, trivial⟩)
  (fun n s _ => by
   have h1 : ¬ ((BX (zI l) step : Nat) : Int) * step < zI l := fun h => by have := (qCl (by omega) hst.1).2 h; omega
   try simp only
   rw [KA, (BG l).2, VZ hs]
   simp only [Option.bind_some]
   rw [decide_eq_false h1]; rfl) (0, false, ⟨0, 0⟩) trivial
 simp only [Int.natCast_zero, Int.zero_mul] at k
 rw [k.1]
 unfold bestR bestV
 cases dimOk r p with
 | true => rfl
 | false =>
  have : ∀ m, jS (fun k (st : Int × Bool × Span) => bif false then qBX (viewOf l ds p r) fine ((k : Int) * step) st else st) 0 m (0, false, ⟨0, 0⟩) = (0, false, ⟨0, 0⟩) := fun m => by
   induction m with
   | zero => rfl
   | succ m ih => rw [TZ, ih]; rfl
  rw [this]; rfl
end Saw
end Go.SL

namespace Go.SL.Saw
def bdR (b : Bool) (ps : List Product) : Rect → Int → Int := if b then bdCat ps else bdAny
theorem qQd {r : Rect} (h : WR r) : w64 (r.X.B - r.X.A) = r.X.B - r.X.A ∧ w64 (r.Y.B - r.Y.A) = r.Y.B - r.Y.A := by
 obtain ⟨⟨a1, a2, a3⟩, b1, b2, b3⟩ := h
 exact ⟨qL (by omega) (by omega), qL (by omega) (by omega)⟩
theorem qC7 {r : Rect} (hw : WR r) (n : Node) (nodes : List Node) (ps : List Product) (b : Bool) (kerf i : Int) (lv : List Leaf) (ct : List Rect) : wE n r nodes ps b kerf i lv ct = some (bdR b ps r n.At) := by
 unfold wE QS QT wD bdR
 cases b with
 | false =>
  simp only [Bool.not_false, cond_true, Bool.false_eq_true, if_false]
  unfold bdAny
  by_cases h1 : n.At < 0
  ·rw [decide_eq_true h1, if_pos (.inl h1)]; rfl
  ·by_cases h2 : 16 ≤ n.At
   ·rw [decide_eq_false h1, decide_eq_true (show n.At ≥ 16 from h2), if_pos (.inr h2)]; rfl
   ·rw [decide_eq_false h1, decide_eq_false (show ¬ n.At ≥ 16 from h2), if_neg (by omega)]; rfl
 | true =>
  simp only [Bool.not_true, cond_false, if_true]
  unfold bdCat
  by_cases h1 : n.At < 0
  ·rw [decide_eq_true h1, if_pos (.inl h1)]; rfl
  ·rw [decide_eq_false h1, cond_false]
   by_cases h2 : (ps.length : Int) ≤ n.At
   ·rw [decide_eq_true (show n.At ≥ _ from h2), if_pos (.inr h2)]; rfl
   ·rw [decide_eq_false (show ¬ n.At ≥ _ from h2), if_neg (by omega), cond_false, qV (by omega) (by omega), cond_true, (IK _).2, (qQd hw).1, (qQd hw).2]
    simp only [Option.bind_some]
    unfold dimOk
    generalize (zY (ps.getD n.At.toNat default)).1 = g1
    generalize (zY (ps.getD n.At.toNat default)).2 = g2
    generalize r.X.B - r.X.A = x
    generalize r.Y.B - r.Y.A = y
    cases x == g1 <;> cases x == g2 <;> cases y == g1 <;> cases y == g2 <;> rfl
theorem qQ1 {r : Rect} (hw : WR r) (n : Node) (nodes : List Node) (ps : List Product) (b : Bool) (kerf i : Int) (lv : List Leaf) : JD n r nodes ps b kerf i lv = some (bdR b ps r n.At) := by
 rw [← qC7 hw n nodes ps b kerf i lv []]
 rfl
theorem s2_step (k : Nat) (r : Rect) (l : Int) (nodes : List Node) (ps : List Product) (b : Bool) (kerf i : Int) (lv : List Leaf) (ct : List Rect) : qP (k + 1) r l nodes ps b kerf i lv ct
  = ER nodes kerf (fun n r => wE n r nodes ps b kerf (w64 (i + 1)) (lv ++ [⟨r, n.At⟩]) ct) (fun r l i ct => qP k r l nodes ps b kerf i lv ct) (fun r l i lv ct => qP k r l nodes ps b kerf i lv ct) r l i lv ct := rfl
theorem s1_step (k : Nat) (r : Rect) (l : Int) (nodes : List Node) (ps : List Product) (b : Bool) (kerf i : Int) (ct : List Rect) : qY (k + 1) r l nodes ps b kerf i ct
  = ER nodes kerf (fun n r => wE n r nodes ps b kerf (w64 (i + 1)) ([] ++ [⟨r, n.At⟩]) ct) (fun r l i ct => qY k r l nodes ps b kerf i ct) (fun r l i lv ct => qP FUEL r l nodes ps b kerf i lv ct) r l i [] ct := rfl
theorem s0_step (r : Rect) (l : Int) (nodes : List Node) (ps : List Product) (b : Bool) (kerf i : Int) : YB r l nodes ps b kerf i
  = ER nodes kerf (fun n r => JD n r nodes ps b kerf (w64 (i + 1)) ([] ++ [⟨r, n.At⟩])) (fun r l i ct => qY FUEL r l nodes ps b kerf i ct) (fun r l i lv ct => qP FUEL r l nodes ps b kerf i lv ct) r l i [] [] := rfl
theorem qCZ {nodes : List Node} {kerf : Int} {bd : Rect → Int → Int} {f : Node → Rect → Option Int} {rec1 : Rect → Int → Int → List Rect → Option WR4} {rec2 : Rect → Int → Int → List Leaf → List Rect → Option WR4} {r : Rect} {l i : Int} {lv : List Leaf} {ct : List Rect} (hr : WR r) (h : ∀ n, f n r = some (bd r n.At)) :
  ER nodes kerf f rec1 rec2 r l i lv ct = ER nodes kerf (fun n r => some (bd r n.At)) rec1 rec2 r l i lv ct := by
 unfold ER k1W
 rw [h]
variable {nodes : List Node} {ps : List Product} {b : Bool} {kerf : Int}
theorem qFM (hk : 0 ≤ kerf ∧ kerf ≤ 20) (hn : nodes.length ≤ 1000) : ∀ (k : Nat) (lv : List Leaf), qD5 (bdR b ps) kerf nodes k lv (fun r l i ct => qP k r l nodes ps b kerf i lv ct)
 | 0, _ => fun ns i x ct _ _ h => absurd h (by omega)
 | k + 1, lv => by
  intro ns i x ct h1 h2 h3 h4 h5 h6 h7 h8
  have := qE7 hk hn (bd := bdR b ps) (bdf := fun n r => some (bdR b ps r n.At)) (fun _ _ _ => rfl) (qFM hk hn k lv) (rec2 := fun r l i lv ct => qP k r l nodes ps b kerf i lv ct) (fun lv => qFM hk hn k lv) ns i x ct h1 h2 h3 h4 h5 h6 h7 h8
  simp only at this ⊢
  rw [s2_step, qCZ (bd := bdR b ps) h4 (fun n => qC7 h4 n _ _ _ _ _ _ _)]
  exact this
theorem qOX {bd : Rect → Int → Int} {lv : List Leaf} {f : Rect → Int → Int → List Rect → Option WR4} {m k : Nat} (h : qD5 bd kerf nodes m lv f) (hkm : k ≤ m) : qD5 bd kerf nodes k lv f := fun ns i x ct h1 h2 h3 => h ns i x ct h1 h2 (by omega)
theorem qNV (hk : 0 ≤ kerf ∧ kerf ≤ 20) (hn : nodes.length ≤ 1000) : ∀ (k : Nat), k ≤ FUEL → qD5 (bdR b ps) kerf nodes k [] (fun r l i ct => qY k r l nodes ps b kerf i ct)
 | 0, _ => fun ns i x ct _ _ h => absurd h (by omega)
 | k + 1, hkf => by
  intro ns i x ct h1 h2 h3 h4 h5 h6 h7 h8
  have := qE7 hk hn (bd := bdR b ps) (bdf := fun n r => some (bdR b ps r n.At)) (fun _ _ _ => rfl) (qNV hk hn k (by omega)) (rec2 := fun r l i lv ct => qP FUEL r l nodes ps b kerf i lv ct) (fun lv => qOX (qFM hk hn FUEL lv) (by omega)) ns i x ct h1 h2 h3 h4 h5 h6 h7 h8
  simp only at this ⊢
  rw [s1_step, qCZ (bd := bdR b ps) h4 (fun n => qC7 h4 n _ _ _ _ _ _ _)]
  exact this
theorem s0_spec (hk : 0 ≤ kerf ∧ kerf ≤ 20) (hn : nodes.length ≤ 1000) {r : Rect} (hr : WR r) : OutW (bdR b ps) kerf nodes 0 ⟨r, 1⟩ [] [] (YB r 1 nodes ps b kerf 0) := by
 have := qE7 hk hn (bd := bdR b ps) (bdf := fun n r => some (bdR b ps r n.At)) (fun _ _ _ => rfl) (qNV hk hn FUEL (Nat.le_refl _)) (rec2 := fun r l i lv ct => qP FUEL r l nodes ps b kerf i lv ct) (fun lv => qFM hk hn FUEL lv) nodes 0 ⟨r, 1⟩ [] rfl (Nat.zero_le _) (by rw [YW]; omega) hr (by simp) (by simp) (Nat.zero_le _) (Nat.zero_le _)
 simp only at this
 rw [s0_step, qCZ (bd := bdR b ps) hr (fun n => qQ1 hr n _ _ _ _ _ _)]
 exact this
theorem qOS (r : Rect) : BB r = some (decide (VR r)) := by
 have k : decide (VR r) = (decide (r.X.A < r.X.B) && (decide (r.Y.A < r.Y.B) && (decide (r.X.A ≥ -600) && (decide (r.X.B ≤ 600) && (decide (r.Y.A ≥ -600) && decide (r.Y.B ≤ 600)))))) := by
  rw [Bool.eq_iff_iff]
  simp only [Bool.and_eq_true, decide_eq_true_eq]
  unfold VR
  omega
 rw [k]
 unfold BB yX
 cases decide (r.X.A < r.X.B) <;> cases decide (r.Y.A < r.Y.B) <;> cases decide (r.X.A ≥ -600) <;> cases decide (r.X.B ≤ 600) <;> cases decide (r.Y.A ≥ -600) <;> rfl
theorem qGG (p : Pattern) (ps : List Product) (b : Bool) (kerf : Int) : UF p ps b kerf = some (if zS (bdR b ps) p kerf = 0 then (lvP p kerf, ctP p kerf, 0) else ([], [], zS (bdR b ps) p kerf)) := by
 have h9 : VJ p ps b kerf true = some ([], [], 9) := rfl
 unfold UF
 rw [qOS]
 simp only [Option.bind_some]
 by_cases hv : VR p.Frame
 ·rw [decide_eq_true hv]
  simp only [Bool.not_true, cond_false]
  by_cases h1 : kerf < 0
  ·have e : zS (bdR b ps) p kerf = 9 := by unfold zS; rw [if_neg (by simpa using hv), if_pos (.inl h1)]
   rw [decide_eq_true h1, e]; rfl
  by_cases h2 : kerf > 20
  ·have e : zS (bdR b ps) p kerf = 9 := by unfold zS; rw [if_neg (by simpa using hv), if_pos (.inr h2)]
   rw [decide_eq_false h1, decide_eq_true h2, e]; rfl
  rw [decide_eq_false h1, decide_eq_false h2, cond_false]
  unfold VJ
  rw [cond_false]
  by_cases h3 : 127 < p.Nodes.length
  ·have e : zS (bdR b ps) p kerf = 4 := by unfold zS; rw [if_neg (by simpa using hv), if_neg (by omega), if_pos h3]
   rw [decide_eq_true (show ((p.Nodes.length : Nat) : Int) > 127 by omega), e]; rfl
  rw [decide_eq_false (show ¬ ((p.Nodes.length : Nat) : Int) > 127 by omega), cond_false]
  have ec : zS (bdR b ps) p kerf = chkP (bdR b ps) kerf p.Nodes [⟨p.Frame, 1⟩] := by unfold zS; rw [if_neg (by simpa using hv), if_neg (by omega), if_neg h3]
  rw [ec]
  rcases s0_spec (nodes := p.Nodes) (ps := ps) (b := b) (kerf := kerf) (by omega) (by omega) (VR_WR hv) with ⟨t, rest, g1, g2, g3⟩ | ⟨e, a, l, c, he, g1, g2⟩
  ·rw [g3]
   simp only [Option.bind_some, beq_self_eq_true, cond_true, Nat.zero_add, List.nil_append]
   have e2 : chkP (bdR b ps) kerf p.Nodes [⟨p.Frame, 1⟩] = chkP (bdR b ps) kerf rest [] := by rw [g1]; exact qA3 t _ _ _ g2
   rw [e2]
   unfold VF VA
   cases rest with
   | nil =>
    have hl : p.Nodes.length = (wA t).length := by rw [g1]; simp
    rw [decide_eq_false (by omega)]
    have hp : p.Nodes = wA t := by rw [g1]; simp
    simp only [cond_false, bne_self_eq_false]
    show _ = some (lvP p kerf, ctP p kerf, 0)
    unfold lvP ctP
    rw [hp, qDN MQ kerf _ (HT g2), qDN (cutG kerf) kerf _ (HT g2)]
    rfl
   | cons n r =>
    have hl : p.Nodes.length = (wA t).length + (r.length + 1) := by rw [g1]; simp
    rw [decide_eq_true (by omega)]
    rfl
  ·rw [g1, g2 []]
   have h0 : (e == 0) = false := by simpa using he
   have h0' : (e != 0) = true := by simpa using he
   simp only [Option.bind_some, h0, cond_false, if_neg he]
   unfold VF VA
   simp only [cond_false, h0', cond_true]
 ·have e : zS (bdR b ps) p kerf = 19 := by unfold zS; rw [if_pos (by simpa using hv)]
  rw [decide_eq_false hv, e]; rfl
theorem qNw (p : Pattern) (ps : List Product) (kerf : Int) : LL p ps kerf = some (zS (bdCat ps) p kerf) := by
 unfold LL
 rw [qGG]
 have e : bdR true ps = bdCat ps := rfl
 rw [e]
 by_cases h : zS (bdCat ps) p kerf = 0
 ·rw [if_pos h]; simp [h]
 ·rw [if_neg h]; rfl
theorem qOW (p : Pattern) (kerf : Int) : DX p kerf = some (if zS bdAny p kerf = 0 then (lvP p kerf, 0) else ([], zS bdAny p kerf)) := by
 unfold DX
 rw [qGG]
 have e : bdR false ([] : List Product) = bdAny := rfl
 rw [e]
 by_cases h : zS bdAny p kerf = 0
 ·rw [if_pos h, if_pos h]; rfl
 ·rw [if_neg h, if_neg h]; rfl
theorem qQy (p : Pattern) (kerf : Int) : EW p kerf = some (if zS bdAny p kerf = 0 then (ctP p kerf, 0) else ([], zS bdAny p kerf)) := by
 unfold EW
 rw [qGG]
 have e : bdR false ([] : List Product) = bdAny := rfl
 rw [e]
 by_cases h : zS bdAny p kerf = 0
 ·rw [if_pos h, if_pos h]; rfl
 ·rw [if_neg h, if_neg h]; rfl
end Go.SL.Saw

namespace Go.SL.Saw
def EM (l : List Slice) (r : Rect) : Int := volS l r.X r.Y ⟨0, zI l⟩
def volT (l : List Slice) : Int := sumN l.length (fun i => (l.getD i default).Len * XI (l.getD i default).Sec)
theorem Area_eq (s : qK) : BJ s = some (XI (PT s)) := by
 have h := qDH s
 unfold BJ
 rw [qMf s]
 simp only [Option.bind_some]
 generalize PT s = t at *
 have b := h.len
 have k1 := JB t.Rows (fun n (a : Int) x => JO t n a x) (fun x => (x : Int)) (fun _ a s => s + lenS a) (fun s => s) (fun x s => 0 ≤ s ∧ s ≤ 1200 * (x : Int)) (by omega)
  (fun n x a hx hi => by
   have l := h.len_b hx
   refine ⟨?_, by omega⟩
   rw [JO, decide_eq_true (show (x : Int) < _ by omega), qV (by omega) (by omega), zA (by omega)]
   simp only [cond_true, Int.toNat_natCast]
   rw [LS (by omega)]
   simp only [Option.bind_some]
   rw [qL (by omega) (by omega)])
  (fun n a _ => by rw [JO]; simp) (i := 0) rfl 0 (by omega)
 rw [NE (fun _ a => lenS a)] at k1
 have e := qDP h (fun _ a => lenS a) (fun _ => rfl)
 rw [e, Int.zero_add] at k1
 rw [k1.1]
 simp only [Option.bind_some]
 unfold XI
 have := k1.2
 rw [qL (by omega) (by omega)]
theorem HY {l : List Slice} (h : VSol l) : ∀ {k : Nat}, k ≤ l.length → 0 ≤ sumN k (fun i => (l.getD i default).Len * XI (l.getD i default).Sec) ∧ sumN k (fun i => (l.getD i default).Len * XI (l.getD i default).Sec) ≤ 1440000 * qZ l k
 | 0, _ => by simp [sumN, qZ]
 | k + 1, hk => by
  have ih := HY h (k := k) (by omega)
  have a := qH6 (h.at (i := k) (by omega)).1
  have b := (h.at (i := k) (by omega)).2.2.1
  have c := Int.mul_le_mul_of_nonneg_left a.2 (show 0 ≤ (l.getD k default).Len by omega)
  have d := Int.mul_nonneg (show 0 ≤ (l.getD k default).Len by omega) a.1
  rw [zH]
  show 0 ≤ sumN k _ + _ ∧ sumN k _ + _ ≤ _
  simp only at ih ⊢
  rw [Int.mul_add]
  constructor <;> omega
theorem qPn {l : List Slice} (h : VSol l) : 0 ≤ volT l ∧ volT l ≤ 28800000000 := by
 have := HY h (Nat.le_refl _)
 have b := (h.bd (Nat.le_refl _)).2
 unfold volT
 have : (1440000 : Int) * qZ l l.length ≤ 1440000 * 20000 := Int.mul_le_mul_of_nonneg_left b (by omega)
 omega
theorem qPX {l : List Slice} (h : VSol l) : BF l = some (volT l) := by
 have hl := h.len
 unfold BF
 rw [qIQ, VZ h]
 simp only [Option.bind_some]
 have k1 := JB l (fun n (a : Int) x => JG l n a x) (fun x => (x : Int)) (fun _ a s => s + a.Len * XI a.Sec) (fun s => s) (fun x s => s = sumN x (fun i => (l.getD i default).Len * XI (l.getD i default).Sec)) (by omega)
  (fun n x a hx hi => by
   have p := HY h (k := x) (by omega)
   have p' := HY h (k := x + 1) (by omega)
   have b1 := (h.bd (i := x) (by omega)).2
   have b2 := (h.bd (i := x + 1) (by omega)).2
   have vs := (h.at hx).1
   have ar := qH6 vs
   have ln := (h.at hx).2.2.1
   have l2 : (l.getD x default).Len ≤ 20000 := by have := zH l x; have := (h.bd (i := x) (by omega)).1; omega
   have pr := Int.mul_le_mul l2 ar.2 ar.1 (by omega)
   have pn := Int.mul_nonneg (show 0 ≤ (l.getD x default).Len by omega) ar.1
   refine ⟨?_, by rw [hi]; rfl⟩
   rw [JG, decide_eq_true (show (x : Int) < _ by omega), qV (by omega) (by omega), zA (by omega)]
   simp only [cond_true, Int.toNat_natCast, Area_eq, Option.bind_some]
   rw [AV vs]
   rw [qL (n := (l.getD x default).Len * XI (l.getD x default).Sec) (by omega) (by omega), qL (by omega) (by omega)])
  (fun n a _ => by rw [JG]; simp) (i := 0) rfl 0 rfl
 rw [k1.1, NE (fun _ (a : Slice) => a.Len * XI a.Sec), Int.zero_add]
 simp only [Option.bind_some, Nat.zero_add]
 rfl
end Go.SL.Saw
