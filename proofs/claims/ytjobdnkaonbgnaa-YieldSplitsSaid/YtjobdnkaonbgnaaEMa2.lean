/- Plain models that this seat's program does not reach. -/
import Derived.Test.YtjobdnkaonbgnaaEMod
import Derived.Test.YtjobdnkaonbgnaaEMa1
set_option linter.unusedVariables false
set_option linter.unusedSimpArgs false
namespace Go.SL
namespace Saw
def XJ (x5 : Bool) : Option Bool :=
 some x5
def qBG (a1 : Product) : Option Bool :=
 bif decide (a1.Thick ≥ 1) then
  bif decide (a1.Thick ≤ 600) then
   bif decide (a1.Width ≥ 1) then
    XJ (decide (a1.Width ≤ 600))
   else
    XJ false
  else
   XJ false
 else
  XJ false
def TW (a1 : Product) (x6 : Bool) : Option (Int × Int) :=
 bif x6 then
  some (0, 0)
 else
  some (w64 (Int.tdiv (w64 ((w64 (a1.Thick * (w64 (1000 + a1.Allow)))) + 999)) 1000), w64 (Int.tdiv (w64 ((w64 (a1.Width * (w64 (1000 + a1.Allow)))) + 999)) 1000))
def qBz (a1 : Product) : Option (Int × Int) :=
 (qBG a1).bind fun v2 =>
 bif !v2 then
  TW a1 true
 else
  bif decide (a1.Allow < 0) then
   TW a1 true
  else
   TW a1 (decide (a1.Allow > 200))
def XR (x5 : Int) (rec_ref19_checkLengths_L1 : Int → Option (Int ⊕ Unit)) (x14 : Bool) : Option (Int ⊕ Unit) :=
 bif x14 then
  some (Sum.inl 11)
 else
  rec_ref19_checkLengths_L1 (w64 (x5 + 1))
def XA (a1 : Product) (x5 : Int) (rec_ref19_checkLengths_L1 : Int → Option (Int ⊕ Unit)) (x9 : Bool) : Option (Int ⊕ Unit) :=
 bif x9 then
  some (Sum.inl 9)
 else
  bif decide (x5 > 0) then
   bif inb x5 a1.Lengths.length then
    bif inb (w64 (x5 - 1)) a1.Lengths.length then
     XR x5 rec_ref19_checkLengths_L1 (decide ((a1.Lengths.getD x5.toNat default) ≤ (a1.Lengths.getD (w64 (x5 - 1)).toNat default)))
    else none
   else none
  else
   XR x5 rec_ref19_checkLengths_L1 false
def wQ (a1 : Product) : Nat → Int → Option (Int ⊕ Unit)
 | 0, _ => none
 | n + 1, x5 =>
  bif decide (x5 < ((a1.Lengths.length : Nat) : Int)) then
   bif inb x5 a1.Lengths.length then
    bif decide ((a1.Lengths.getD x5.toNat default) < 100) then
     XA a1 x5 (wQ a1 n) true
    else
     XA a1 x5 (wQ a1 n) (decide ((a1.Lengths.getD x5.toNat default) > 20000))
   else none
  else
   some (Sum.inr ())
def XI (x20 : Int) (rec_ref19_checkLengths_L4 : Int → Option (Int ⊕ Unit)) (x24 : Bool) : Option (Int ⊕ Unit) :=
 bif x24 then
  some (Sum.inl 9)
 else
  rec_ref19_checkLengths_L4 (w64 (x20 + 1))
def wP (a1 : Product) : Nat → Int → Option (Int ⊕ Unit)
 | 0, _ => none
 | n + 1, x20 =>
  bif decide (x20 < ((a1.Prices.length : Nat) : Int)) then
   bif inb x20 a1.Prices.length then
    bif decide ((a1.Prices.getD x20.toNat default) < 0) then
     XI x20 (wP a1 n) true
    else
     XI x20 (wP a1 n) (decide ((a1.Prices.getD x20.toNat default) > 1000000))
   else none
  else
   some (Sum.inr ())
def DH (x3 : Bool) : Option Bool :=
 some x3
def DL (a1 : Int) : Option Bool :=
 bif decide (a1 < (-600)) then
  DH true
 else
  DH (decide (a1 > 600))
def FF (a1 : Span) : Option Bool :=
 some (decide (a1.A ≥ a1.B))
def NZ (x6 : Int) (rec_ref10_Check_L2 : Int → Option (Int ⊕ Unit)) (x14 : Bool) : Option (Int ⊕ Unit) :=
 bif x14 then
  some (Sum.inl 9)
 else
  rec_ref10_Check_L2 (w64 (x6 + 1))
def QK (a1 : qI) : Nat → Int → Option (Int ⊕ Unit)
 | 0, _ => none
 | n + 1, x6 =>
  bif decide (x6 < ((a1.Rows.length : Nat) : Int)) then
   bif inb x6 a1.Rows.length then
    (DL ((a1.Rows.getD x6.toNat default).A)).bind fun v9 =>
    bif v9 then
     NZ x6 (QK a1 n) true
    else
     (DL ((a1.Rows.getD x6.toNat default).B)).bind fun v12 =>
     NZ x6 (QK a1 n) v12
   else none
  else
   some (Sum.inr ())
def NX (x31 : Int) (rec_ref10_Check_L5 : Int → Option (Int ⊕ Unit)) (x37 : Bool) : Option (Int ⊕ Unit) :=
 bif x37 then
  some (Sum.inl 19)
 else
  rec_ref10_Check_L5 (w64 (x31 + 1))
def QI (a1 : qI) : Nat → Int → Option (Int ⊕ Unit)
 | 0, _ => none
 | n + 1, x31 =>
  bif decide (x31 < ((a1.Rows.length : Nat) : Int)) then
   bif inb x31 a1.Rows.length then
    (FF (a1.Rows.getD x31.toNat default)).bind fun v34 =>
    bif v34 then
     NX x31 (QI a1 n) (!((((a1.Rows.getD x31.toNat default).A) == 0) && ((((a1.Rows.getD x31.toNat default).B) == 0) && true)))
    else
     NX x31 (QI a1 n) false
   else none
  else
   some (Sum.inr ())
def FA (a1 : qI) (x29 : Bool) : Option Int :=
 bif x29 then
  some 19
 else
  (QI a1 FUEL 0).bind fun u41 => Sum.elim (fun v42 => some v42) (fun o39 =>
  some 0) u41
def NI (a1 : qI) (x4 : Bool) : Option Int :=
 bif x4 then
  some 9
 else
  (QK a1 FUEL 0).bind fun u18 => Sum.elim (fun v19 => some v19) (fun o16 =>
  bif ((a1.Rows.length : Nat) : Int) == 0 then
   bif a1.Low != 0 then
    some 19
   else
    some 0
  else
   bif inb 0 a1.Rows.length then
    (FF (a1.Rows.getD (0 : Int).toNat default)).bind fun v23 =>
    bif v23 then
     FA a1 true
    else
     bif inb (w64 (((a1.Rows.length : Nat) : Int) - 1)) a1.Rows.length then
      (FF (a1.Rows.getD (w64 (((a1.Rows.length : Nat) : Int) - 1)).toNat default)).bind fun v27 =>
      FA a1 v27
     else none
   else none) u18
def AT (a1 : qI) : Option Int :=
 bif decide (((a1.Rows.length : Nat) : Int) > 120) then
  some 4
 else
  bif decide (a1.Low < (-60)) then
   NI a1 true
  else
   NI a1 (decide (a1.Low > (w64 (60 - ((a1.Rows.length : Nat) : Int)))))
def NV (a1 : List qF) (x4 : Int) (x5 : Int) (rec_ref11_Check_L1 : Int → Int → Option (Int ⊕ Unit)) (x13 : Bool) : Option (Int ⊕ Unit) :=
 bif x13 then
  some (Sum.inl 9)
 else
  rec_ref11_Check_L1 (w64 (x4 + ((a1.getD x5.toNat default).Len))) (w64 (x5 + 1))
def QJ (a1 : List qF) : Nat → Int → Int → Option (Int ⊕ Unit)
 | 0, _, _ => none
 | n + 1, x4, x5 =>
  bif decide (x5 < ((a1.length : Nat) : Int)) then
   bif inb x5 a1.length then
    (AT ((a1.getD x5.toNat default).Sec)).bind fun v8 =>
    bif v8 != 0 then
     some (Sum.inl v8)
    else
     bif (((((a1.getD x5.toNat default).Sec).Rows).length : Nat) : Int) == 0 then
      some (Sum.inl 18)
     else
      bif decide (((a1.getD x5.toNat default).Len) < 1) then
       NV a1 x4 x5 (QJ a1 n) true
      else
       NV a1 x4 x5 (QJ a1 n) (decide (((a1.getD x5.toNat default).Len) > (w64 (20000 - x4))))
   else none
  else
   some (Sum.inr ())
def AN (a1 : List qF) : Option Int :=
 bif ((a1.length : Nat) : Int) == 0 then
  some 3
 else
  bif decide (((a1.length : Nat) : Int) > 24) then
   some 4
  else
   (QJ a1 FUEL 0 0).bind fun u17 => Sum.elim (fun v18 => some v18) (fun o15 =>
   some 0) u17
def ZI (a1 : List qF) : Nat → Int → Int → Option Int
 | 0, _, _ => none
 | n + 1, x5, x6 =>
  bif decide (x6 < ((a1.length : Nat) : Int)) then
   bif inb x6 a1.length then
    (ZI a1 n) (w64 (x5 + ((a1.getD x6.toNat default).Len))) (w64 (x6 + 1))
   else none
  else
   some x5
def CU (a1 : List qF) : Option Int :=
 (AN a1).bind fun v2 =>
 bif v2 != 0 then
  some 0
 else
  (ZI a1 FUEL 0 0).bind fun o10 =>
  some o10
def smallc (c : Int) : Bool := decide (97 ≤ c) && decide (c ≤ 122)
def digitc (c : Int) : Bool := decide (48 ≤ c) && decide (c ≤ 57)
theorem qCv (c : Int) : JJ c = some (smallc c) := by
 unfold JJ KD smallc; cases decide (97 ≤ c) <;> rfl
theorem qHR (c : Int) : PE c = some (digitc c) := by
 unfold PE KQ digitc; cases decide (48 ≤ c) <;> rfl
def badc (b : ByteArray) (i : Nat) : Option Bool := bif smallc (strAt b i) || (digitc (strAt b i) || strAt b i == 95) then none else some false
def isNm (b : ByteArray) : Bool :=
 if b.size < 1 ∨ 16 < b.size then false
 else bif smallc (strAt b 0) then (match findN (badc b) 1 (b.size - 1) with | .inl e => e | .inr _ => true) else false
theorem qI7 (b : ByteArray) : TS b = some (isNm b) := by
 unfold TS isNm YH
 by_cases h1 : b.size < 1
 ·rw [decide_eq_true (show ((b.size : Nat) : Int) < 1 by omega), if_pos (.inl h1)]; rfl
 rw [decide_eq_false (show ¬ ((b.size : Nat) : Int) < 1 by omega)]
 by_cases h2 : 16 < b.size
 ·rw [decide_eq_true (show ((b.size : Nat) : Int) > 16 by omega), if_pos (.inr h2)]; rfl
 rw [decide_eq_false (show ¬ ((b.size : Nat) : Int) > 16 by omega), if_neg (by omega), zA (by omega) (by omega)]
 have L : zV b FUEL ((1 : Nat) : Int) = some (findN (badc b) 1 (b.size - 1)) := by
  refine UJ b.size (zV b) (badc b) 1 (by omega) (by omega) (fun n i hi hN => ?_) (fun n => ?_)
  ·rw [zV, decide_eq_true (by omega), zA (by omega) (by omega)]
   simp only [cond_true, Int.toNat_natCast, qCv, qHR, Option.bind_some, JX, zJ (show i < 4611686018427387904 by omega), badc]
   cases smallc (strAt b i) <;> cases digitc (strAt b i) <;> cases h : strAt b i == 95 <;> simp [bne, h]
  ·rw [zV, decide_eq_false (by omega)]; rfl
 simp only [cond_false, cond_true, qCv, Option.bind_some, Int.toNat_zero]
 rw [show (1 : Int) = ((1 : Nat) : Int) from rfl, L]
 cases smallc (strAt b 0) with
 | false => rfl
 | true => cases findN (badc b) 1 (b.size - 1) <;> rfl
/-! ### Green -/
def okSz (n : Int) : Bool := decide (n ≥ 1) && decide (n ≤ 600)
theorem qI4 (n : Int) : WD n = some (okSz n) := by
 unfold WD YQ okSz; cases decide (n ≥ 1) <;> rfl
def SX (n a : Int) : Int := Int.tdiv (n * (1000 + a) + 999) 1000
theorem HJ {n a : Int} (h1 : 1 ≤ n) (h2 : n ≤ 600) (h3 : 0 ≤ a) (h4 : a ≤ 200) : w64 (Int.tdiv (w64 (w64 (n * w64 (1000 + a)) + 999)) 1000) = SX n a ∧ n ≤ SX n a ∧ SX n a ≤ 721 := by
 have h5 : w64 (1000 + a) = 1000 + a := qN (by omega) (by omega)
 have hb := Int.mul_le_mul h2 (show 1000 + a ≤ 1200 by omega) (by omega) (by omega)
 have ha := Int.mul_le_mul (Int.le_refl n) (show 1000 ≤ 1000 + a by omega) (by omega) (by omega)
 have h6 : w64 (n * (1000 + a)) = n * (1000 + a) := qN (by omega) (by omega)
 have h7 : w64 (n * (1000 + a) + 999) = n * (1000 + a) + 999 := qN (by omega) (by omega)
 rw [h5, h6, h7]
 have h8 : Int.tdiv (n * (1000 + a) + 999) 1000 = (n * (1000 + a) + 999) / 1000 := Int.tdiv_eq_ediv_of_nonneg (by omega)
 unfold SX
 rw [h8]
 refine ⟨qN (by omega) (by omega), by omega, by omega⟩
def okG (p : Product) : Bool := okSz p.Thick && (okSz p.Width && (decide (0 ≤ p.Allow) && decide (p.Allow ≤ 200)))
theorem qEd {p : Product} : okG p = true ↔ (1 ≤ p.Thick ∧ p.Thick ≤ 600) ∧ (1 ≤ p.Width ∧ p.Width ≤ 600) ∧ 0 ≤ p.Allow ∧ p.Allow ≤ 200 := by
 unfold okG okSz; simp
def wK (p : Product) : Int × Int := bif okG p then (SX p.Thick p.Allow, SX p.Width p.Allow) else (0, 0)
theorem qJB (p : Product) : 0 ≤ (wK p).1 ∧ (wK p).1 ≤ 721 ∧ 0 ≤ (wK p).2 ∧ (wK p).2 ≤ 721 := by
 unfold wK
 cases h : okG p with
 | false => simp only [cond_false]; omega
 | true =>
  obtain ⟨⟨a, b⟩, ⟨c, d⟩, e, f⟩ := qEd.1 h
  have g1 := HJ a b e f
  have g2 := HJ c d e f
  simp only [cond_true]
  omega
theorem qCd (p : Product) : ZQ p = some (wK p) ∧ qBz p = some (wK p) := by
 unfold ZQ qBz qBG XJ QN TW TP wK
 simp only [qI4, Option.bind_some]
 by_cases h : okG p = true
 ·obtain ⟨⟨a, b⟩, ⟨c, d⟩, e, f⟩ := qEd.1 h
  have g1 := HJ a b e f
  have g2 := HJ c d e f
  rw [h]
  unfold okSz
  rw [decide_eq_true (show p.Thick ≥ 1 from a), decide_eq_true b, decide_eq_true (show p.Width ≥ 1 from c), decide_eq_true d, decide_eq_false (show ¬ p.Allow < 0 by omega), decide_eq_false (show ¬ p.Allow > 200 by omega)]
  simp only [Bool.and_self, Bool.not_true, cond_true, cond_false, Option.bind_some]
  rw [g1.1, g2.1]
  exact ⟨rfl, rfl⟩
 ·rw [Bool.not_eq_true] at h
  have h' := h
  unfold okG at h'
  rw [h]
  have e1 : decide (p.Allow < 0) = !decide (0 ≤ p.Allow) := by by_cases q : p.Allow < 0 <;> simp [q] <;> omega
  have e2 : decide (p.Allow > 200) = !decide (p.Allow ≤ 200) := by by_cases q : p.Allow > 200 <;> simp [q] <;> omega
  rw [e1, e2]
  unfold okSz at h' ⊢
  revert h'
  cases decide (p.Thick ≥ 1) <;> cases decide (p.Thick ≤ 600) <;> cases decide (p.Width ≥ 1) <;> cases decide (p.Width ≤ 600) <;> cases decide (0 ≤ p.Allow) <;> cases decide (p.Allow ≤ 200) <;> simp
/-! ### The checks -/
def badLen (p : Product) (i : Nat) : Option Int :=
 if p.Lengths.getD i default < 100 ∨ 20000 < p.Lengths.getD i default then some 9
 else if 0 < i ∧ p.Lengths.getD i default ≤ p.Lengths.getD (i - 1) default then some 11 else none
def badPr (n : Int) : Option Int := if n < 0 ∨ 1000000 < n then some 9 else none
def qGN (p : Product) : Int :=
 if p.Lengths.length = 0 then 3 else if 8 < p.Lengths.length then 4 else if p.Prices.length ≠ p.Lengths.length then 19
 else match findN (badLen p) 0 p.Lengths.length with
  | .inl e => e
  | .inr _ => match findE badPr p.Prices with
   | .inl e => e
   | .inr _ => 0
theorem lenL_eq (p : Product) (h : p.Lengths.length ≤ 8) : qY p FUEL 0 = some (findN (badLen p) 0 p.Lengths.length) ∧ wQ p FUEL 0 = some (findN (badLen p) 0 p.Lengths.length) := by
 refine ⟨UJ p.Lengths.length (qY p) (badLen p) 0 (by omega) (by omega) (fun n i hi hN => ?_) (fun n => ?_), UJ p.Lengths.length (wQ p) (badLen p) 0 (by omega) (by omega) (fun n i hi hN => ?_) (fun n => ?_)⟩
 ·rw [qY, decide_eq_true (by omega), zA (by omega) (by omega)]
  simp only [cond_true, Int.toNat_natCast, QB, yX, zJ (show i < 4611686018427387904 by omega), badLen]
  by_cases h1 : p.Lengths.getD i default < 100
  ·rw [decide_eq_true h1, if_pos (.inl h1)]; rfl
  rw [decide_eq_false h1]
  by_cases h2 : 20000 < p.Lengths.getD i default
  ·rw [decide_eq_true (show p.Lengths.getD i default > 20000 from h2), if_pos (.inr h2)]; rfl
  rw [decide_eq_false (show ¬ p.Lengths.getD i default > 20000 from h2), if_neg (by omega)]
  simp only [cond_false]
  by_cases h3 : 0 < i
  ·rw [decide_eq_true (show (i : Int) > 0 by omega), show w64 ((i : Int) - 1) = ((i - 1 : Nat) : Int) by rw [qN (by omega) (by omega)]; omega, zA (by omega) (by omega)]
   simp only [cond_true, Int.toNat_natCast]
   by_cases h4 : p.Lengths.getD i default ≤ p.Lengths.getD (i - 1) default
   ·rw [decide_eq_true h4, if_pos ⟨h3, h4⟩]; rfl
   ·rw [decide_eq_false h4, if_neg (fun q => h4 q.2)]; rfl
  ·rw [decide_eq_false (show ¬ (i : Int) > 0 by omega), if_neg (fun q => h3 q.1)]; rfl
 ·rw [qY, decide_eq_false (by omega)]; rfl
 ·rw [wQ, decide_eq_true (by omega), zA (by omega) (by omega)]
  simp only [cond_true, Int.toNat_natCast, XA, XR, zJ (show i < 4611686018427387904 by omega), badLen]
  by_cases h1 : p.Lengths.getD i default < 100
  ·rw [decide_eq_true h1, if_pos (.inl h1)]; rfl
  rw [decide_eq_false h1]
  by_cases h2 : 20000 < p.Lengths.getD i default
  ·rw [decide_eq_true (show p.Lengths.getD i default > 20000 from h2), if_pos (.inr h2)]; rfl
  rw [decide_eq_false (show ¬ p.Lengths.getD i default > 20000 from h2), if_neg (by omega)]
  simp only [cond_false]
  by_cases h3 : 0 < i
  ·rw [decide_eq_true (show (i : Int) > 0 by omega), show w64 ((i : Int) - 1) = ((i - 1 : Nat) : Int) by rw [qN (by omega) (by omega)]; omega, zA (by omega) (by omega), zA (by omega) (by omega)]
   simp only [cond_true, Int.toNat_natCast]
   by_cases h4 : p.Lengths.getD i default ≤ p.Lengths.getD (i - 1) default
   ·rw [decide_eq_true h4, if_pos ⟨h3, h4⟩]; rfl
   ·rw [decide_eq_false h4, if_neg (fun q => h4 q.2)]; rfl
  ·rw [decide_eq_false (show ¬ (i : Int) > 0 by omega), if_neg (fun q => h3 q.1)]; rfl
 ·rw [wQ, decide_eq_false (by omega)]; rfl
theorem prL_eq (p : Product) (h : p.Prices.length ≤ 8) : zE p FUEL 0 = some (findE badPr p.Prices) ∧ wP p FUEL 0 = some (findE badPr p.Prices) := by
 refine ⟨RY p.Prices (zE p) badPr (by omega) (fun n i hN => ?_) (fun n => ?_), RY p.Prices (wP p) badPr (by omega) (fun n i hN => ?_) (fun n => ?_)⟩
 ·rw [zE, decide_eq_true (by omega), zA (by omega) (by omega)]
  simp only [cond_true, Int.toNat_natCast, QD, zJ (show i < 4611686018427387904 by omega), badPr]
  by_cases h1 : p.Prices.getD i default < 0
  ·rw [decide_eq_true h1, if_pos (.inl h1)]; rfl
  rw [decide_eq_false h1]
  by_cases h2 : 1000000 < p.Prices.getD i default
  ·rw [decide_eq_true (show p.Prices.getD i default > 1000000 from h2), if_pos (.inr h2)]; rfl
  rw [decide_eq_false (show ¬ p.Prices.getD i default > 1000000 from h2), if_neg (by omega)]; rfl
 ·rw [zE, decide_eq_false (by omega)]; rfl
 ·rw [wP, decide_eq_true (by omega), zA (by omega) (by omega)]
  simp only [cond_true, Int.toNat_natCast, XI, zJ (show i < 4611686018427387904 by omega), badPr]
  by_cases h1 : p.Prices.getD i default < 0
  ·rw [decide_eq_true h1, if_pos (.inl h1)]; rfl
  rw [decide_eq_false h1]
  by_cases h2 : 1000000 < p.Prices.getD i default
  ·rw [decide_eq_true (show p.Prices.getD i default > 1000000 from h2), if_pos (.inr h2)]; rfl
  rw [decide_eq_false (show ¬ p.Prices.getD i default > 1000000 from h2), if_neg (by omega)]; rfl
 ·rw [wP, decide_eq_false (by omega)]; rfl
def PG (p : Product) : Int :=
 if p.Thick < 5 ∨ 300 < p.Thick ∨ p.Width < p.Thick ∨ 600 < p.Width ∨ p.Allow < 0 ∨ 200 < p.Allow ∨ p.Wane < 0 ∨ 1000 < p.Wane then 9
 else if 600 < (wK p).2 then 9 else qGN p
theorem qJl (p : Product) : yP p = some (PG p) := by
 unfold yP wA PG
 by_cases h1 : p.Thick < 5
 ·rw [if_pos (.inl h1), decide_eq_true h1]; rfl
 rw [decide_eq_false h1]
 by_cases h2 : p.Thick > 300
 ·rw [if_pos (by omega), decide_eq_true h2]; rfl
 rw [decide_eq_false h2]
 by_cases h3 : p.Width < p.Thick
 ·rw [if_pos (by omega), decide_eq_true h3]; rfl
 rw [decide_eq_false h3]
 by_cases h4 : p.Width > 600
 ·rw [if_pos (by omega), decide_eq_true h4]; rfl
 rw [decide_eq_false h4]
 simp only [cond_false]
 unfold zZ
 by_cases h5 : p.Allow < 0
 ·rw [if_pos (by omega), decide_eq_true h5]; rfl
 rw [decide_eq_false h5]
 by_cases h6 : p.Allow > 200
 ·rw [if_pos (by omega), decide_eq_true h6]; rfl
 rw [decide_eq_false h6]
 by_cases h7 : p.Wane < 0
 ·rw [if_pos (by omega), decide_eq_true h7]; rfl
 rw [decide_eq_false h7]
 by_cases h8 : p.Wane > 1000
 ·rw [if_pos (by omega), decide_eq_true h8]; rfl
 rw [decide_eq_false h8, if_neg (by omega)]
 simp only [cond_false, (qCd p).1, Option.bind_some]
 by_cases h9 : 600 < (wK p).2
 ·rw [if_pos h9, decide_eq_true (show (wK p).2 > 600 from h9)]; rfl
 rw [if_neg h9, decide_eq_false (show ¬ (wK p).2 > 600 from h9)]
 unfold qGN
 by_cases h0 : p.Lengths.length = 0
 ·rw [if_pos h0, h0]; rfl
 rw [if_neg h0, show (((p.Lengths.length : Nat) : Int) == 0) = false by rw [beq_eq_false_iff_ne]; omega]
 by_cases h1 : 8 < p.Lengths.length
 ·rw [if_pos h1, decide_eq_true (by omega)]; rfl
 rw [if_neg h1, decide_eq_false (by omega)]
 by_cases h2 : p.Prices.length ≠ p.Lengths.length
 ·rw [if_pos h2, show (((p.Prices.length : Nat) : Int) != ((p.Lengths.length : Nat) : Int)) = true by rw [bne_iff_ne]; omega]; rfl
 rw [if_neg h2, show (((p.Prices.length : Nat) : Int) != ((p.Lengths.length : Nat) : Int)) = false by rw [bne_eq_false_iff_eq]; omega]
 simp only [cond_false]
 rw [(lenL_eq p (by omega)).1, (prL_eq p (by omega)).1]
 cases findN (badLen p) 0 p.Lengths.length with
 | inl e => rfl
 | inr u => cases findE badPr p.Prices <;> rfl
def twin (l : List Product) (x : Nat) (i : Nat) : Option Int := bif strEq ((l.getD i default).Name) ((l.getD x default).Name) then some 7 else none
def badP (l : List Product) (x : Nat) : Option Int :=
 bif isNm (l.getD x default).Name then
  match findN (twin l x) 0 x with
  | .inl e => some e
  | .inr _ => bif PG (l.getD x default) != 0 then some (PG (l.getD x default)) else none
 else some 6
def QC (l : List Product) : Int := if 16 < l.length then 4 else match findN (badP l) 0 l.length with | .inl e => e | .inr _ => 0
def fnd (l : List Product) (s : ByteArray) : Nat → Option (Int × Bool) := fun i => bif strEq ((l.getD i default).Name) s then some ((i : Int), true) else none
theorem Find_eq (l : List Product) (s : ByteArray) (h : l.length ≤ 1000000) : TB l s = some (match findN (fnd l s) 0 l.length with | .inl e => e | .inr _ => (0, false)) := by
 unfold TB
 have L : yH l s FUEL ((0 : Nat) : Int) = some (findN (fnd l s) 0 l.length) := by
  refine UJ l.length (yH l s) _ 0 (by omega) (by omega) (fun n i hi hN => ?_) (fun n => ?_)
  ·rw [yH, decide_eq_true (by omega), zA (by omega) (by omega)]
   simp only [cond_true, Int.toNat_natCast, zJ (show i < 4611686018427387904 by omega), fnd]
   cases strEq (l.getD i default).Name s <;> rfl
  ·rw [yH, decide_eq_false (by omega)]; rfl
 rw [show (0 : Int) = ((0 : Nat) : Int) from rfl, L]
 simp only [Option.bind_some]
 cases findN (fnd l s) 0 l.length <;> rfl
theorem qEJ {α : Type} [Inhabited α] (l : List α) {i x : Nat} (h : i < x) : (l.take x).getD i default = l.getD i default := by
 simp [List.getD_eq_getElem?_getD, List.getElem?_take, h]
theorem qJk (l : List Product) {x : Nat} (hx : x ≤ l.length) : (match findN (fnd (l.take x) (l.getD x default).Name) 0 (l.take x).length with | .inl e => e | .inr _ => ((0 : Int), false)).2 = (match findN (twin l x) 0 x with | .inl _ => true | .inr _ => false) ∧ ∀ e, findN (twin l x) 0 x = .inl e → e = 7 := by
 have hl : (l.take x).length = x := by rw [List.length_take]; omega
 rw [hl]
 constructor
 ·cases h1 : findN (twin l x) 0 x with
  | inr u =>
   have h2 : findN (fnd (l.take x) (l.getD x default).Name) 0 x = .inr () := by
    rw [KR]
    intro i a b
    have := KR.1 h1 i a b
    unfold twin at this
    unfold fnd
    rw [qEJ l (by omega)]
    cases hq : strEq (l.getD i default).Name (l.getD x default).Name with
    | true => rw [hq] at this; cases this
    | false => rfl
   rw [h2]
  | inl e =>
   obtain ⟨i, a, b, c, d⟩ := ZV h1
   cases h2 : findN (fnd (l.take x) (l.getD x default).Name) 0 x with
   | inr u =>
    have := KR.1 h2 i a b
    unfold fnd at this
    rw [qEJ l (by omega)] at this
    unfold twin at c
    cases hq : strEq (l.getD i default).Name (l.getD x default).Name with
    | true => rw [hq] at this; cases this
    | false => rw [hq] at c; cases c
   | inl e' =>
    obtain ⟨j, a', b', c', d'⟩ := ZV h2
    unfold fnd at c'
    cases hq : strEq ((l.take x).getD j default).Name (l.getD x default).Name with
    | true => rw [hq] at c'; cases c'; rfl
    | false => rw [hq] at c'; cases c'
 ·intro e h
  obtain ⟨i, a, b, c, d⟩ := ZV h
  unfold twin at c
  cases hq : strEq (l.getD i default).Name (l.getD x default).Name with
  | true => rw [hq] at c; cases c; rfl
  | false => rw [hq] at c; cases c
theorem qGe (l : List Product) : JI l = some (QC l) := by
 unfold JI QC
 by_cases h : 16 < l.length
 ·rw [if_pos h, decide_eq_true (by omega)]; rfl
 rw [if_neg h, decide_eq_false (by omega)]
 have L : jR l FUEL ((0 : Nat) : Int) = some (findN (badP l) 0 l.length) := by
  refine UJ l.length (jR l) _ 0 (by omega) (by omega) (fun n i hi hN => ?_) (fun n => ?_)
  ·rw [jR, decide_eq_true (by omega), zA (by omega) (by omega)]
   have hs : slOk 0 (i : Int) l.length = true := by unfold slOk; exact decide_eq_true (by omega)
   simp only [cond_true, Int.toNat_natCast, zJ (show i < 4611686018427387904 by omega), qI7, Option.bind_some, hs, Find_eq (l.take i) (l.getD i default).Name (by rw [List.length_take]; omega), qJl, badP]
   cases isNm (l.getD i default).Name with
   | false => rfl
   | true =>
    obtain ⟨f1, f2⟩ := qJk l (x := i) (by omega)
    simp only [Bool.not_true, cond_false, f1]
    cases hf : findN (twin l i) 0 i with
    | inl e => rw [f2 e hf]; rfl
    | inr u =>
     simp only [cond_false, cond_true]
     by_cases hc : PG (l.getD i default) = 0
     ·rw [hc]; rfl
     ·rw [show (PG (l.getD i default) != 0) = true by rw [bne_iff_ne]; exact hc]; rfl
  ·rw [jR, decide_eq_false (by omega)]; rfl
 rw [show (0 : Int) = ((0 : Nat) : Int) from rfl, L]
 simp only [cond_false, Option.bind_some]
 cases findN (badP l) 0 l.length <;> rfl
theorem KI {n b : Nat} (h1 : n ≤ 1000000) (h2 : b ≤ 1000000) : room n b = true := room_t (by
 have := Nat.mul_le_mul h1 h2; omega)
theorem qIK {l : List Product} (h : ¬ QC l ≠ 0) : l.length ≤ 16 := by
 unfold QC at h
 by_cases q : 16 < l.length
 ·rw [if_pos q] at h; exact absurd (by decide) h
 ·omega
end Saw
end Go.SL
