/- Plain models that this seat's program does not reach. -/
import Derived.Test.YtpphchcejhodkaaDoorEMod
import Derived.Test.YtpphchcejhodkaaDoorEMa1
set_option linter.unusedVariables false
set_option linter.unusedSimpArgs false
namespace Go.SL
namespace Saw
def HN (x3 : Bool) : Option Bool :=
 some x3
def qBh (a1 : Int) : Option Bool :=
 bif decide (a1 ≥ 48) then
  HN (decide (a1 ≤ 57))
 else
  HN false
def KM (x5 : Int) (rec_ref02_IsName_L2 : Int → Option (Bool ⊕ Unit)) (x16 : Bool) : Option (Bool ⊕ Unit) :=
 bif x16 then
  some (Sum.inl false)
 else
  rec_ref02_IsName_L2 (w64 (x5 + 1))
def MT (a1 : ByteArray) (x5 : Int) (rec_ref02_IsName_L2 : Int → Option (Bool ⊕ Unit)) (x9 : Bool) : Option (Bool ⊕ Unit) :=
 bif !x9 then
  bif x5 == 0 then
   KM x5 rec_ref02_IsName_L2 true
  else
   bif inb x5 a1.size then
    bif (strAt a1 x5.toNat) != 95 then
     (qBh (strAt a1 x5.toNat)).bind fun v14 =>
     KM x5 rec_ref02_IsName_L2 (!v14)
    else
     KM x5 rec_ref02_IsName_L2 false
   else none
 else
  KM x5 rec_ref02_IsName_L2 false
def QR (a1 : ByteArray) : Nat → Int → Option (Bool ⊕ Unit)
 | 0, _ => none
 | n + 1, x5 =>
  bif decide (x5 < ((a1.size : Nat) : Int)) then
   bif inb x5 a1.size then
    bif decide ((strAt a1 x5.toNat) ≥ 97) then
     MT a1 x5 (QR a1 n) (decide ((strAt a1 x5.toNat) ≤ 122))
    else
     MT a1 x5 (QR a1 n) false
   else none
  else
   some (Sum.inr ())
def ML (a1 : ByteArray) (x3 : Bool) : Option Bool :=
 bif x3 then
  some false
 else
  (QR a1 FUEL 0).bind fun u20 => Sum.elim (fun v21 => some v21) (fun o18 =>
  some true) u20
def qAb (a1 : ByteArray) : Option Bool :=
 bif decide (((a1.size : Nat) : Int) < 1) then
  ML a1 true
 else
  ML a1 (decide (((a1.size : Nat) : Int) > 16))
def PR (x5 : Bool) : Option Bool :=
 some x5
def qEI (a1 : Product) : Option Bool :=
 bif decide (a1.Thick ≥ 1) then
  bif decide (a1.Thick ≤ 600) then
   bif decide (a1.Width ≥ 1) then
    PR (decide (a1.Width ≤ 600))
   else
    PR false
  else
   PR false
 else
  PR false
def DO (a1 : Product) (x6 : Bool) : Option (Int × Int) :=
 bif x6 then
  some (0, 0)
 else
  some (w64 (Int.tdiv (w64 ((w64 (a1.Thick * (w64 (1000 + a1.Allow)))) + 999)) 1000), w64 (Int.tdiv (w64 ((w64 (a1.Width * (w64 (1000 + a1.Allow)))) + 999)) 1000))
def SO (a1 : Product) : Option (Int × Int) :=
 (qEI a1).bind fun v2 =>
 bif !v2 then
  DO a1 true
 else
  bif decide (a1.Allow < 0) then
   DO a1 true
  else
   DO a1 (decide (a1.Allow > 200))
def RJ (x5 : Int) (rec_ref19_checkLengths_L1 : Int → Option (Int ⊕ Unit)) (x14 : Bool) : Option (Int ⊕ Unit) :=
 bif x14 then
  some (Sum.inl 11)
 else
  rec_ref19_checkLengths_L1 (w64 (x5 + 1))
def PJ (a1 : Product) (x5 : Int) (rec_ref19_checkLengths_L1 : Int → Option (Int ⊕ Unit)) (x9 : Bool) : Option (Int ⊕ Unit) :=
 bif x9 then
  some (Sum.inl 9)
 else
  bif decide (x5 > 0) then
   bif inb x5 a1.Lengths.length then
    bif inb (w64 (x5 - 1)) a1.Lengths.length then
     RJ x5 rec_ref19_checkLengths_L1 (decide ((a1.Lengths.getD x5.toNat default) ≤ (a1.Lengths.getD (w64 (x5 - 1)).toNat default)))
    else none
   else none
  else
   RJ x5 rec_ref19_checkLengths_L1 false
def wS (a1 : Product) : Nat → Int → Option (Int ⊕ Unit)
 | 0, _ => none
 | n + 1, x5 =>
  bif decide (x5 < ((a1.Lengths.length : Nat) : Int)) then
   bif inb x5 a1.Lengths.length then
    bif decide ((a1.Lengths.getD x5.toNat default) < 100) then
     PJ a1 x5 (wS a1 n) true
    else
     PJ a1 x5 (wS a1 n) (decide ((a1.Lengths.getD x5.toNat default) > 20000))
   else none
  else
   some (Sum.inr ())
def PT (x20 : Int) (rec_ref19_checkLengths_L4 : Int → Option (Int ⊕ Unit)) (x24 : Bool) : Option (Int ⊕ Unit) :=
 bif x24 then
  some (Sum.inl 9)
 else
  rec_ref19_checkLengths_L4 (w64 (x20 + 1))
def wQ (a1 : Product) : Nat → Int → Option (Int ⊕ Unit)
 | 0, _ => none
 | n + 1, x20 =>
  bif decide (x20 < ((a1.Prices.length : Nat) : Int)) then
   bif inb x20 a1.Prices.length then
    bif decide ((a1.Prices.getD x20.toNat default) < 0) then
     PT x20 (wQ a1 n) true
    else
     PT x20 (wQ a1 n) (decide ((a1.Prices.getD x20.toNat default) > 1000000))
   else none
  else
   some (Sum.inr ())
def GY (a1 : Product) : Option Int :=
 bif ((a1.Lengths.length : Nat) : Int) == 0 then
  some 3
 else
  bif decide (((a1.Lengths.length : Nat) : Int) > 8) then
   some 4
  else
   bif ((a1.Prices.length : Nat) : Int) != ((a1.Lengths.length : Nat) : Int) then
    some 19
   else
    (wS a1 FUEL 0).bind fun u18 => Sum.elim (fun v19 => some v19) (fun o16 =>
    (wQ a1 FUEL 0).bind fun u28 => Sum.elim (fun v29 => some v29) (fun o26 =>
    some 0) u28) u18
def JU (a1 : List Product) (x3 : Int) : Nat → Int → Option (Int ⊕ Unit)
 | 0, _ => none
 | n + 1, x9 =>
  bif decide (x9 < x3) then
   bif inb x9 a1.length then
    bif strEq ((a1.getD x9.toNat default).Name) ((a1.getD x3.toNat default).Name) then
     some (Sum.inl 7)
    else
     (JU a1 x3 n) (w64 (x9 + 1))
   else none
  else
   some (Sum.inr ())
def jU (a1 : List Product) (x3 : Int) (rec_ref19_Check_L1 : Int → Option (Int ⊕ Unit)) (x24 : Bool) : Option (Int ⊕ Unit) :=
 bif x24 then
  some (Sum.inl 9)
 else
  (SO (a1.getD x3.toNat default)).bind fun v26 =>
  bif decide (v26.2 > 600) then
   some (Sum.inl 9)
  else
   (GY (a1.getD x3.toNat default)).bind fun v29 =>
   bif v29 != 0 then
    some (Sum.inl v29)
   else
    rec_ref19_Check_L1 (w64 (x3 + 1))
def zV (a1 : List Product) : Nat → Int → Option (Int ⊕ Unit)
 | 0, _ => none
 | n + 1, x3 =>
  bif decide (x3 < ((a1.length : Nat) : Int)) then
   bif inb x3 a1.length then
    (qAb ((a1.getD x3.toNat default).Name)).bind fun v6 =>
    bif !v6 then
     some (Sum.inl 6)
    else
     (JU a1 x3 FUEL 0).bind fun u15 => Sum.elim (fun v16 => some (Sum.inl v16)) (fun o13 =>
     bif decide (((a1.getD x3.toNat default).Thick) < 5) then
      jU a1 x3 (zV a1 n) true
     else
      bif decide (((a1.getD x3.toNat default).Thick) > 300) then
       jU a1 x3 (zV a1 n) true
      else
       bif decide (((a1.getD x3.toNat default).Width) < ((a1.getD x3.toNat default).Thick)) then
        jU a1 x3 (zV a1 n) true
       else
        bif decide (((a1.getD x3.toNat default).Width) > 600) then
         jU a1 x3 (zV a1 n) true
        else
         bif decide (((a1.getD x3.toNat default).Allow) < 0) then
          jU a1 x3 (zV a1 n) true
         else
          bif decide (((a1.getD x3.toNat default).Allow) > 200) then
           jU a1 x3 (zV a1 n) true
          else
           bif decide (((a1.getD x3.toNat default).Wane) < 0) then
            jU a1 x3 (zV a1 n) true
           else
            jU a1 x3 (zV a1 n) (decide (((a1.getD x3.toNat default).Wane) > 1000))) u15
   else none
  else
   some (Sum.inr ())
def qBu (a1 : List Product) : Option Int :=
 bif decide (((a1.length : Nat) : Int) > 16) then
  some 4
 else
  (zV a1 FUEL 0).bind fun u34 => Sum.elim (fun v35 => some v35) (fun o32 =>
  some 0) u34
def DQ (x8 : Int) (rec_ref23_Sizes_L1 : (List Int) → (List Int) → Int → Option ((List Int) × (List Int))) (l19 : List Int) (l20 : List Int) : Option ((List Int) × (List Int)) :=
 rec_ref23_Sizes_L1 l19 l20 (w64 (x8 + 1))
def QB (a1 : List Product) (a2 : Int) : Nat → (List Int) → (List Int) → Int → Option ((List Int) × (List Int))
 | 0, _, _, _ => none
 | n + 1, l6, l7, x8 =>
  bif decide (x8 < ((a1.length : Nat) : Int)) then
   bif inb x8 a1.length then
    (SO (a1.getD x8.toNat default)).bind fun v11 =>
    bif v11.1 == a2 then
     bif room (l6.length + 1) 8 then
      bif room (l7.length + 1) 8 then
       DQ x8 (QB a1 a2 n) (l6 ++ ([v11.2] : List Int)) (l7 ++ ([x8] : List Int))
      else none
     else none
    else
     bif v11.2 == a2 then
      bif room (l6.length + 1) 8 then
       bif room (l7.length + 1) 8 then
        DQ x8 (QB a1 a2 n) (l6 ++ ([v11.1] : List Int)) (l7 ++ ([x8] : List Int))
       else none
      else none
     else
      DQ x8 (QB a1 a2 n) l6 l7
   else none
  else
   some (l6, l7)
def qEO (a1 : List Product) (a2 : Int) : Option ((List Int) × (List Int)) :=
 (qBu a1).bind fun v3 =>
 bif v3 != 0 then
  some (([] : List Int), ([] : List Int))
 else
  (QB a1 a2 FUEL ([] : List Int) ([] : List Int) 0).bind fun o23 =>
  some (o23.1, o23.2)
def smallc (c : Int) : Bool := decide (97 ≤ c) && decide (c ≤ 122)
def digitc (c : Int) : Bool := decide (48 ≤ c) && decide (c ≤ 57)
theorem qGv (c : Int) : XG c = some (smallc c) := by
 unfold XG RQ smallc; cases decide (97 ≤ c) <;> rfl
theorem qMq (c : Int) : TV c = some (digitc c) := by
 unfold TV TG digitc; cases decide (48 ≤ c) <;> rfl
theorem qJS (c : Int) : qBh c = some (digitc c) := by
 unfold qBh HN digitc
 show (bif decide (48 ≤ c) then _ else _) = _
 cases decide (48 ≤ c) <;> rfl
def badc (b : ByteArray) (i : Nat) : Option Bool := bif smallc (strAt b i) || (digitc (strAt b i) || strAt b i == 95) then none else some false
def isNm (b : ByteArray) : Bool :=
 if b.size < 1 ∨ 16 < b.size then false
 else bif smallc (strAt b 0) then (match findN (badc b) 1 (b.size - 1) with | .inl e => e | .inr _ => true) else false
theorem qNs (b : ByteArray) : DG b = some (isNm b) := by
 unfold DG isNm XZ
 by_cases h1 : b.size < 1
 ·rw [decide_eq_true (show ((b.size : Nat) : Int) < 1 by omega), if_pos (.inl h1)]; rfl
 rw [decide_eq_false (show ¬ ((b.size : Nat) : Int) < 1 by omega)]
 by_cases h2 : 16 < b.size
 ·rw [decide_eq_true (show ((b.size : Nat) : Int) > 16 by omega), if_pos (.inr h2)]; rfl
 rw [decide_eq_false (show ¬ ((b.size : Nat) : Int) > 16 by omega), if_neg (by omega), qO (by omega) (by omega)]
 have L : wT b FUEL ((1 : Nat) : Int) = some (findN (badc b) 1 (b.size - 1)) := by
  refine jK b.size (wT b) (badc b) 1 (by omega) (by omega) (fun n i hi hN => ?_) (fun n => ?_)
  ·rw [wT, decide_eq_true (by omega), qO (by omega) (by omega)]
   simp only [cond_true, Int.toNat_natCast, qGv, qMq, Option.bind_some, KF, qX (show i < 4611686018427387904 by omega), badc]
   cases smallc (strAt b i) <;> cases digitc (strAt b i) <;> cases h : strAt b i == 95 <;> simp [bne, h]
  ·rw [wT, decide_eq_false (by omega)]; rfl
 simp only [cond_false, cond_true, qGv, Option.bind_some, Int.toNat_zero]
 rw [show (1 : Int) = ((1 : Nat) : Int) from rfl, L]
 cases smallc (strAt b 0) with
 | false => rfl
 | true => cases findN (badc b) 1 (b.size - 1) <;> rfl
theorem qI0 (b : ByteArray) : qAb b = some (isNm b) := by
 unfold qAb isNm ML
 by_cases h1 : b.size < 1
 ·rw [decide_eq_true (show ((b.size : Nat) : Int) < 1 by omega), if_pos (.inl h1)]; rfl
 rw [decide_eq_false (show ¬ ((b.size : Nat) : Int) < 1 by omega)]
 by_cases h2 : 16 < b.size
 ·rw [decide_eq_true (show ((b.size : Nat) : Int) > 16 by omega), if_pos (.inr h2)]; rfl
 rw [decide_eq_false (show ¬ ((b.size : Nat) : Int) > 16 by omega), if_neg (by omega)]
 have hs : ∀ c : Int, decide (c ≥ 97) = decide (97 ≤ c) := fun c => rfl
 have L : QR b FUEL ((0 : Nat) : Int) = some (findN (fun i => bif smallc (strAt b i) then none else if i = 0 then some false else badc b i) 0 (b.size - 0)) := by
  refine jK b.size (QR b) _ 0 (by omega) (by omega) (fun n i hi hN => ?_) (fun n => ?_)
  ·rw [QR, decide_eq_true (by omega), qO (by omega) (by omega)]
   simp only [cond_true, Int.toNat_natCast, qJS, Option.bind_some, MT, KM, qX (show i < 4611686018427387904 by omega), badc, qO (show (0 : Int) ≤ (i : Int) by omega) (show (i : Int) < (b.size : Int) by omega)]
   by_cases h0 : i = 0
   ·subst h0
    simp only [smallc, hs]
    cases decide (97 ≤ strAt b 0) <;> cases decide (strAt b 0 ≤ 122) <;> rfl
   ·have e : ((i : Int) == 0) = false := by rw [beq_eq_false_iff_ne]; omega
    simp only [smallc, hs, e, if_neg h0]
    cases decide (97 ≤ strAt b i) <;> cases decide (strAt b i ≤ 122) <;> cases h : strAt b i == 95 <;> cases digitc (strAt b i) <;> simp [bne, h]
  ·rw [QR, decide_eq_false (by omega)]; rfl
 simp only [cond_false]
 rw [show (0 : Int) = ((0 : Nat) : Int) from rfl, L]
 obtain ⟨m, hm⟩ : ∃ m, b.size = m + 1 := ⟨b.size - 1, by omega⟩
 rw [hm, Nat.sub_zero, findN]
 simp only [if_true]
 cases hs0 : smallc (strAt b 0) with
 | false => rfl
 | true =>
  simp only [cond_true]
  rw [qEG (b2 := badc b) (fun i h1 h2 => by
   have : ¬ i = 0 := by omega
   rw [if_neg this]
   unfold badc
   cases smallc (strAt b i) <;> rfl)]
  rw [show m + 1 - 1 = m by omega]
  show ((some (findN (badc b) 1 m)).bind _) = _
  cases findN (badc b) 1 m <;> rfl
/-! ### Green -/
def okSz (n : Int) : Bool := decide (n ≥ 1) && decide (n ≤ 600)
theorem qM7 (n : Int) : JZ n = some (okSz n) := by
 unfold JZ PB okSz; cases decide (n ≥ 1) <;> rfl
def SV (n a : Int) : Int := Int.tdiv (n * (1000 + a) + 999) 1000
theorem LB {n a : Int} (h1 : 1 ≤ n) (h2 : n ≤ 600) (h3 : 0 ≤ a) (h4 : a ≤ 200) : w64 (Int.tdiv (w64 (w64 (n * w64 (1000 + a)) + 999)) 1000) = SV n a ∧ n ≤ SV n a ∧ SV n a ≤ 721 := by
 have h5 : w64 (1000 + a) = 1000 + a := qJ (by omega) (by omega)
 have hb := Int.mul_le_mul h2 (show 1000 + a ≤ 1200 by omega) (by omega) (by omega)
 have ha := Int.mul_le_mul (Int.le_refl n) (show 1000 ≤ 1000 + a by omega) (by omega) (by omega)
 have h6 : w64 (n * (1000 + a)) = n * (1000 + a) := qJ (by omega) (by omega)
 have h7 : w64 (n * (1000 + a) + 999) = n * (1000 + a) + 999 := qJ (by omega) (by omega)
 rw [h5, h6, h7]
 have h8 : Int.tdiv (n * (1000 + a) + 999) 1000 = (n * (1000 + a) + 999) / 1000 := Int.tdiv_eq_ediv_of_nonneg (by omega)
 unfold SV
 rw [h8]
 refine ⟨qJ (by omega) (by omega), by omega, by omega⟩
def okG (p : Product) : Bool := okSz p.Thick && (okSz p.Width && (decide (0 ≤ p.Allow) && decide (p.Allow ≤ 200)))
theorem qD4 {p : Product} : okG p = true ↔ (1 ≤ p.Thick ∧ p.Thick ≤ 600) ∧ (1 ≤ p.Width ∧ p.Width ≤ 600) ∧ 0 ≤ p.Allow ∧ p.Allow ≤ 200 := by
 unfold okG okSz; simp
def qS (p : Product) : Int × Int := bif okG p then (SV p.Thick p.Allow, SV p.Width p.Allow) else (0, 0)
theorem qKt (p : Product) : 0 ≤ (qS p).1 ∧ (qS p).1 ≤ 721 ∧ 0 ≤ (qS p).2 ∧ (qS p).2 ≤ 721 := by
 unfold qS
 cases h : okG p with
 | false => simp only [cond_false]; omega
 | true =>
  obtain ⟨⟨a, b⟩, ⟨c, d⟩, e, f⟩ := qD4.1 h
  have g1 := LB a b e f
  have g2 := LB c d e f
  simp only [cond_true]
  omega
theorem SE (p : Product) : ZB p = some (qS p) ∧ SO p = some (qS p) := by
 unfold ZB SO qEI PR ZR DO GC qS
 simp only [qM7, Option.bind_some]
 by_cases h : okG p = true
 ·obtain ⟨⟨a, b⟩, ⟨c, d⟩, e, f⟩ := qD4.1 h
  have g1 := LB a b e f
  have g2 := LB c d e f
  rw [h]
  unfold okSz
  rw [decide_eq_true (show p.Thick ≥ 1 from a), decide_eq_true b, decide_eq_true (show p.Width ≥ 1 from c), decide_eq_true d, decide_eq_false (show ¬ p.Allow < 0 by omega), decide_eq_false (show ¬ p.Allow > 200 by omega)]
  simp only [Bool.and_self, Bool.not_true, cond_true, cond_false, Option.bind_some]
  rw [g1.1, g2.1]
  exact ⟨rfl, rfl⟩
 ·rw [Bool.not_eq_true] at h
  have h' := h
  unfold okG at h'
  rw [h]
  have e1 : decide (p.Allow < 0) = !decide (0 ≤ p.Allow) := by by_cases q : p.Allow < 0 <;> simp [q] <;> omega
  have e2 : decide (p.Allow > 200) = !decide (p.Allow ≤ 200) := by by_cases q : p.Allow > 200 <;> simp [q] <;> omega
  rw [e1, e2]
  unfold okSz at h' ⊢
  revert h'
  cases decide (p.Thick ≥ 1) <;> cases decide (p.Thick ≤ 600) <;> cases decide (p.Width ≥ 1) <;> cases decide (p.Width ≤ 600) <;> cases decide (0 ≤ p.Allow) <;> cases decide (p.Allow ≤ 200) <;> simp
/-! ### The checks -/
def badLen (p : Product) (i : Nat) : Option Int :=
 if p.Lengths.getD i default < 100 ∨ 20000 < p.Lengths.getD i default then some 9
 else if 0 < i ∧ p.Lengths.getD i default ≤ p.Lengths.getD (i - 1) default then some 11 else none
def badPr (n : Int) : Option Int := if n < 0 ∨ 1000000 < n then some 9 else none
def CO (p : Product) : Int :=
 if p.Lengths.length = 0 then 3 else if 8 < p.Lengths.length then 4 else if p.Prices.length ≠ p.Lengths.length then 19
 else match findN (badLen p) 0 p.Lengths.length with
  | .inl e => e
  | .inr _ => match findE badPr p.Prices with
   | .inl e => e
   | .inr _ => 0
theorem qMj (p : Product) (h : p.Lengths.length ≤ 8) : zE p FUEL 0 = some (findN (badLen p) 0 p.Lengths.length) ∧ wS p FUEL 0 = some (findN (badLen p) 0 p.Lengths.length) := by
 refine ⟨jK p.Lengths.length (zE p) (badLen p) 0 (by omega) (by omega) (fun n i hi hN => ?_) (fun n => ?_), jK p.Lengths.length (wS p) (badLen p) 0 (by omega) (by omega) (fun n i hi hN => ?_) (fun n => ?_)⟩
 ·rw [zE, decide_eq_true (by omega), qO (by omega) (by omega)]
  simp only [cond_true, Int.toNat_natCast, ZE, ZD, qX (show i < 4611686018427387904 by omega), badLen]
  by_cases h1 : p.Lengths.getD i default < 100
  ·rw [decide_eq_true h1, if_pos (.inl h1)]; rfl
  rw [decide_eq_false h1]
  by_cases h2 : 20000 < p.Lengths.getD i default
  ·rw [decide_eq_true (show p.Lengths.getD i default > 20000 from h2), if_pos (.inr h2)]; rfl
  rw [decide_eq_false (show ¬ p.Lengths.getD i default > 20000 from h2), if_neg (by omega)]
  simp only [cond_false]
  by_cases h3 : 0 < i
  ·rw [decide_eq_true (show (i : Int) > 0 by omega), show w64 ((i : Int) - 1) = ((i - 1 : Nat) : Int) by rw [qJ (by omega) (by omega)]; omega, qO (by omega) (by omega)]
   simp only [cond_true, Int.toNat_natCast]
   by_cases h4 : p.Lengths.getD i default ≤ p.Lengths.getD (i - 1) default
   ·rw [decide_eq_true h4, if_pos ⟨h3, h4⟩]; rfl
   ·rw [decide_eq_false h4, if_neg (fun q => h4 q.2)]; rfl
  ·rw [decide_eq_false (show ¬ (i : Int) > 0 by omega), if_neg (fun q => h3 q.1)]; rfl
 ·rw [zE, decide_eq_false (by omega)]; rfl
 ·rw [wS, decide_eq_true (by omega), qO (by omega) (by omega)]
  simp only [cond_true, Int.toNat_natCast, PJ, RJ, qX (show i < 4611686018427387904 by omega), badLen]
  by_cases h1 : p.Lengths.getD i default < 100
  ·rw [decide_eq_true h1, if_pos (.inl h1)]; rfl
  rw [decide_eq_false h1]
  by_cases h2 : 20000 < p.Lengths.getD i default
  ·rw [decide_eq_true (show p.Lengths.getD i default > 20000 from h2), if_pos (.inr h2)]; rfl
  rw [decide_eq_false (show ¬ p.Lengths.getD i default > 20000 from h2), if_neg (by omega)]
  simp only [cond_false]
  by_cases h3 : 0 < i
  ·rw [decide_eq_true (show (i : Int) > 0 by omega), show w64 ((i : Int) - 1) = ((i - 1 : Nat) : Int) by rw [qJ (by omega) (by omega)]; omega, qO (by omega) (by omega), qO (by omega) (by omega)]
   simp only [cond_true, Int.toNat_natCast]
   by_cases h4 : p.Lengths.getD i default ≤ p.Lengths.getD (i - 1) default
   ·rw [decide_eq_true h4, if_pos ⟨h3, h4⟩]; rfl
   ·rw [decide_eq_false h4, if_neg (fun q => h4 q.2)]; rfl
  ·rw [decide_eq_false (show ¬ (i : Int) > 0 by omega), if_neg (fun q => h3 q.1)]; rfl
 ·rw [wS, decide_eq_false (by omega)]; rfl
theorem qNQ (p : Product) (h : p.Prices.length ≤ 8) : zN p FUEL 0 = some (findE badPr p.Prices) ∧ wQ p FUEL 0 = some (findE badPr p.Prices) := by
 refine ⟨DH p.Prices (zN p) badPr (by omega) (fun n i hN => ?_) (fun n => ?_), DH p.Prices (wQ p) badPr (by omega) (fun n i hN => ?_) (fun n => ?_)⟩
 ·rw [zN, decide_eq_true (by omega), qO (by omega) (by omega)]
  simp only [cond_true, Int.toNat_natCast, ZG, qX (show i < 4611686018427387904 by omega), badPr]
  by_cases h1 : p.Prices.getD i default < 0
  ·rw [decide_eq_true h1, if_pos (.inl h1)]; rfl
  rw [decide_eq_false h1]
  by_cases h2 : 1000000 < p.Prices.getD i default
  ·rw [decide_eq_true (show p.Prices.getD i default > 1000000 from h2), if_pos (.inr h2)]; rfl
  rw [decide_eq_false (show ¬ p.Prices.getD i default > 1000000 from h2), if_neg (by omega)]; rfl
 ·rw [zN, decide_eq_false (by omega)]; rfl
 ·rw [wQ, decide_eq_true (by omega), qO (by omega) (by omega)]
  simp only [cond_true, Int.toNat_natCast, PT, qX (show i < 4611686018427387904 by omega), badPr]
  by_cases h1 : p.Prices.getD i default < 0
  ·rw [decide_eq_true h1, if_pos (.inl h1)]; rfl
  rw [decide_eq_false h1]
  by_cases h2 : 1000000 < p.Prices.getD i default
  ·rw [decide_eq_true (show p.Prices.getD i default > 1000000 from h2), if_pos (.inr h2)]; rfl
  rw [decide_eq_false (show ¬ p.Prices.getD i default > 1000000 from h2), if_neg (by omega)]; rfl
 ·rw [wQ, decide_eq_false (by omega)]; rfl
theorem qM1 (p : Product) : GY p = some (CO p) := by
 unfold GY CO
 by_cases h0 : p.Lengths.length = 0
 ·rw [if_pos h0, h0]; rfl
 rw [if_neg h0, show (((p.Lengths.length : Nat) : Int) == 0) = false by rw [beq_eq_false_iff_ne]; omega]
 by_cases h1 : 8 < p.Lengths.length
 ·rw [if_pos h1, decide_eq_true (by omega)]; rfl
 rw [if_neg h1, decide_eq_false (by omega)]
 by_cases h2 : p.Prices.length ≠ p.Lengths.length
 ·rw [if_pos h2, show (((p.Prices.length : Nat) : Int) != ((p.Lengths.length : Nat) : Int)) = true by rw [bne_iff_ne]; omega]; rfl
 rw [if_neg h2, show (((p.Prices.length : Nat) : Int) != ((p.Lengths.length : Nat) : Int)) = false by rw [bne_eq_false_iff_eq]; omega]
 simp only [cond_false]
 rw [(qMj p (by omega)).2, (qNQ p (by omega)).2]
 cases findN (badLen p) 0 p.Lengths.length with
 | inl e => rfl
 | inr u => cases findE badPr p.Prices <;> rfl
def PC (p : Product) : Int :=
 if p.Thick < 5 ∨ 300 < p.Thick ∨ p.Width < p.Thick ∨ 600 < p.Width ∨ p.Allow < 0 ∨ 200 < p.Allow ∨ p.Wane < 0 ∨ 1000 < p.Wane then 9
 else if 600 < (qS p).2 then 9 else CO p
theorem qNi (p : Product) : QO p = some (PC p) := by
 unfold QO wV PC
 by_cases h1 : p.Thick < 5
 ·rw [if_pos (.inl h1), decide_eq_true h1]; rfl
 rw [decide_eq_false h1]
 by_cases h2 : p.Thick > 300
 ·rw [if_pos (by omega), decide_eq_true h2]; rfl
 rw [decide_eq_false h2]
 by_cases h3 : p.Width < p.Thick
 ·rw [if_pos (by omega), decide_eq_true h3]; rfl
 rw [decide_eq_false h3]
 by_cases h4 : p.Width > 600
 ·rw [if_pos (by omega), decide_eq_true h4]; rfl
 rw [decide_eq_false h4]
 simp only [cond_false]
 unfold wU
 by_cases h5 : p.Allow < 0
 ·rw [if_pos (by omega), decide_eq_true h5]; rfl
 rw [decide_eq_false h5]
 by_cases h6 : p.Allow > 200
 ·rw [if_pos (by omega), decide_eq_true h6]; rfl
 rw [decide_eq_false h6]
 by_cases h7 : p.Wane < 0
 ·rw [if_pos (by omega), decide_eq_true h7]; rfl
 rw [decide_eq_false h7]
 by_cases h8 : p.Wane > 1000
 ·rw [if_pos (by omega), decide_eq_true h8]; rfl
 rw [decide_eq_false h8, if_neg (by omega)]
 simp only [cond_false, (SE p).1, Option.bind_some]
 by_cases h9 : 600 < (qS p).2
 ·rw [if_pos h9, decide_eq_true (show (qS p).2 > 600 from h9)]; rfl
 rw [if_neg h9, decide_eq_false (show ¬ (qS p).2 > 600 from h9)]
 unfold CO
 by_cases h0 : p.Lengths.length = 0
 ·rw [if_pos h0, h0]; rfl
 rw [if_neg h0, show (((p.Lengths.length : Nat) : Int) == 0) = false by rw [beq_eq_false_iff_ne]; omega]
 by_cases h1 : 8 < p.Lengths.length
 ·rw [if_pos h1, decide_eq_true (by omega)]; rfl
 rw [if_neg h1, decide_eq_false (by omega)]
 by_cases h2 : p.Prices.length ≠ p.Lengths.length
 ·rw [if_pos h2, show (((p.Prices.length : Nat) : Int) != ((p.Lengths.length : Nat) : Int)) = true by rw [bne_iff_ne]; omega]; rfl
 rw [if_neg h2, show (((p.Prices.length : Nat) : Int) != ((p.Lengths.length : Nat) : Int)) = false by rw [bne_eq_false_iff_eq]; omega]
 simp only [cond_false]
 rw [(qMj p (by omega)).1, (qNQ p (by omega)).1]
 cases findN (badLen p) 0 p.Lengths.length with
 | inl e => rfl
 | inr u => cases findE badPr p.Prices <;> rfl
def twin (l : List Product) (x : Nat) (i : Nat) : Option Int := bif strEq ((l.getD i default).Name) ((l.getD x default).Name) then some 7 else none
def badP (l : List Product) (x : Nat) : Option Int :=
 bif isNm (l.getD x default).Name then
  match findN (twin l x) 0 x with
  | .inl e => some e
  | .inr _ => bif PC (l.getD x default) != 0 then some (PC (l.getD x default)) else none
 else some 6
def zY (l : List Product) : Int := if 16 < l.length then 4 else match findN (badP l) 0 l.length with | .inl e => e | .inr _ => 0
def fnd (l : List Product) (s : ByteArray) : Nat → Option (Int × Bool) := fun i => bif strEq ((l.getD i default).Name) s then some ((i : Int), true) else none
theorem Find_eq (l : List Product) (s : ByteArray) (h : l.length ≤ 1000000) : DC l s = some (match findN (fnd l s) 0 l.length with | .inl e => e | .inr _ => (0, false)) := by
 unfold DC
 have L : QN l s FUEL ((0 : Nat) : Int) = some (findN (fnd l s) 0 l.length) := by
  refine jK l.length (QN l s) _ 0 (by omega) (by omega) (fun n i hi hN => ?_) (fun n => ?_)
  ·rw [QN, decide_eq_true (by omega), qO (by omega) (by omega)]
   simp only [cond_true, Int.toNat_natCast, qX (show i < 4611686018427387904 by omega), fnd]
   cases strEq (l.getD i default).Name s <;> rfl
  ·rw [QN, decide_eq_false (by omega)]; rfl
 rw [show (0 : Int) = ((0 : Nat) : Int) from rfl, L]
 simp only [Option.bind_some]
 cases findN (fnd l s) 0 l.length <;> rfl
theorem qIJ {α : Type} [Inhabited α] (l : List α) {i x : Nat} (h : i < x) : (l.take x).getD i default = l.getD i default := by
 simp [List.getD_eq_getElem?_getD, List.getElem?_take, h]
theorem qNP (l : List Product) {x : Nat} (hx : x ≤ l.length) : (match findN (fnd (l.take x) (l.getD x default).Name) 0 (l.take x).length with | .inl e => e | .inr _ => ((0 : Int), false)).2 = (match findN (twin l x) 0 x with | .inl _ => true | .inr _ => false) ∧ ∀ e, findN (twin l x) 0 x = .inl e → e = 7 := by
 have hl : (l.take x).length = x := by rw [List.length_take]; omega
 rw [hl]
 constructor
 ·cases h1 : findN (twin l x) 0 x with
  | inr u =>
   have h2 : findN (fnd (l.take x) (l.getD x default).Name) 0 x = .inr () := by
    rw [JJ]
    intro i a b
    have := JJ.1 h1 i a b
    unfold twin at this
    unfold fnd
    rw [qIJ l (by omega)]
    cases hq : strEq (l.getD i default).Name (l.getD x default).Name with
    | true => rw [hq] at this; cases this
    | false => rfl
   rw [h2]
  | inl e =>
   obtain ⟨i, a, b, c, d⟩ := WD h1
   cases h2 : findN (fnd (l.take x) (l.getD x default).Name) 0 x with
   | inr u =>
    have := JJ.1 h2 i a b
    unfold fnd at this
    rw [qIJ l (by omega)] at this
    unfold twin at c
    cases hq : strEq (l.getD i default).Name (l.getD x default).Name with
    | true => rw [hq] at this; cases this
    | false => rw [hq] at c; cases c
   | inl e' =>
    obtain ⟨j, a', b', c', d'⟩ := WD h2
    unfold fnd at c'
    cases hq : strEq ((l.take x).getD j default).Name (l.getD x default).Name with
    | true => rw [hq] at c'; cases c'; rfl
    | false => rw [hq] at c'; cases c'
 ·intro e h
  obtain ⟨i, a, b, c, d⟩ := WD h
  unfold twin at c
  cases hq : strEq (l.getD i default).Name (l.getD x default).Name with
  | true => rw [hq] at c; cases c; rfl
  | false => rw [hq] at c; cases c
theorem qCw (l : List Product) : QZ l = some (zY l) := by
 unfold QZ zY
 by_cases h : 16 < l.length
 ·rw [if_pos h, decide_eq_true (by omega)]; rfl
 rw [if_neg h, decide_eq_false (by omega)]
 have L : yU l FUEL ((0 : Nat) : Int) = some (findN (badP l) 0 l.length) := by
  refine jK l.length (yU l) _ 0 (by omega) (by omega) (fun n i hi hN => ?_) (fun n => ?_)
  ·rw [yU, decide_eq_true (by omega), qO (by omega) (by omega)]
   have hs : slOk 0 (i : Int) l.length = true := by unfold slOk; exact decide_eq_true (by omega)
   simp only [cond_true, Int.toNat_natCast, qX (show i < 4611686018427387904 by omega), qNs, Option.bind_some, hs, Find_eq (l.take i) (l.getD i default).Name (by rw [List.length_take]; omega), qNi, badP]
   cases isNm (l.getD i default).Name with
   | false => rfl
   | true =>
    obtain ⟨f1, f2⟩ := qNP l (x := i) (by omega)
    simp only [Bool.not_true, cond_false, f1]
    cases hf : findN (twin l i) 0 i with
    | inl e => rw [f2 e hf]; rfl
    | inr u =>
     simp only [cond_false, cond_true]
     by_cases hc : PC (l.getD i default) = 0
     ·rw [hc]; rfl
     ·rw [show (PC (l.getD i default) != 0) = true by rw [bne_iff_ne]; exact hc]; rfl
  ·rw [yU, decide_eq_false (by omega)]; rfl
 rw [show (0 : Int) = ((0 : Nat) : Int) from rfl, L]
 simp only [cond_false, Option.bind_some]
 cases findN (badP l) 0 l.length <;> rfl
theorem qK3 (l : List Product) : qBu l = some (zY l) := by
 unfold qBu zY
 by_cases h : 16 < l.length
 ·rw [if_pos h, decide_eq_true (by omega)]; rfl
 rw [if_neg h, decide_eq_false (by omega)]
 have L : zV l FUEL ((0 : Nat) : Int) = some (findN (badP l) 0 l.length) := by
  refine jK l.length (zV l) _ 0 (by omega) (by omega) (fun n i hi hN => ?_) (fun n => ?_)
  ·have L2 : JU l (i : Int) FUEL ((0 : Nat) : Int) = some (findN (twin l i) 0 i) := by
    refine jK i (JU l (i : Int)) _ 0 (by omega) (by omega) (fun n j hi hN => ?_) (fun n => ?_)
    ·rw [JU, decide_eq_true (by omega), qO (by omega) (by omega)]
     simp only [cond_true, Int.toNat_natCast, qX (show j < 4611686018427387904 by omega), twin]
     cases strEq (l.getD j default).Name (l.getD i default).Name <;> rfl
    ·rw [JU, decide_eq_false (by omega)]; rfl
   rw [show ((0 : Nat) : Int) = 0 from rfl] at L2
   rw [zV, decide_eq_true (by omega), qO (by omega) (by omega)]
   simp only [cond_true, Int.toNat_natCast, qX (show i < 4611686018427387904 by omega), qI0, Option.bind_some, L2, qM1, badP, jU, (SE _).2]
   cases isNm (l.getD i default).Name with
   | false => rfl
   | true =>
    simp only [Bool.not_true, cond_false, cond_true]
    cases hf : findN (twin l i) 0 i with
    | inl e => rfl
    | inr u =>
     simp only [Sum.elim_inr]
     unfold PC
     by_cases h1 : (l.getD i default).Thick < 5
     ·rw [if_pos (.inl h1), decide_eq_true h1]; rfl
     rw [decide_eq_false h1]
     by_cases h2 : (l.getD i default).Thick > 300
     ·rw [if_pos (show _ ∨ _ by omega), decide_eq_true h2]; rfl
     rw [decide_eq_false h2]
     by_cases h3 : (l.getD i default).Width < (l.getD i default).Thick
     ·rw [if_pos (show _ ∨ _ by omega), decide_eq_true h3]; rfl
     rw [decide_eq_false h3]
     by_cases h4 : (l.getD i default).Width > 600
     ·rw [if_pos (show _ ∨ _ by omega), decide_eq_true h4]; rfl
     rw [decide_eq_false h4]
     by_cases h5 : (l.getD i default).Allow < 0
     ·rw [if_pos (show _ ∨ _ by omega), decide_eq_true h5]; rfl
     rw [decide_eq_false h5]
     by_cases h6 : (l.getD i default).Allow > 200
     ·rw [if_pos (show _ ∨ _ by omega), decide_eq_true h6]; rfl
     rw [decide_eq_false h6]
     by_cases h7 : (l.getD i default).Wane < 0
     ·rw [if_pos (show _ ∨ _ by omega), decide_eq_true h7]; rfl
     rw [decide_eq_false h7]
     by_cases h8 : (l.getD i default).Wane > 1000
     ·rw [if_pos (show _ ∨ _ by omega), decide_eq_true h8]; rfl
     rw [decide_eq_false h8, if_neg (show ¬ ((l.getD i default).Thick < 5 ∨ 300 < (l.getD i default).Thick ∨ (l.getD i default).Width < (l.getD i default).Thick ∨ 600 < (l.getD i default).Width ∨ (l.getD i default).Allow < 0 ∨ 200 < (l.getD i default).Allow ∨ (l.getD i default).Wane < 0 ∨ 1000 < (l.getD i default).Wane) by omega)]
     simp only [cond_false]
     by_cases h9 : 600 < (qS (l.getD i default)).2
     ·rw [if_pos h9, decide_eq_true (show (qS (l.getD i default)).2 > 600 from h9)]; rfl
     rw [if_neg h9, decide_eq_false (show ¬ (qS (l.getD i default)).2 > 600 from h9)]
     by_cases hc : CO (l.getD i default) = 0
     ·rw [hc]; rfl
     ·rw [show (CO (l.getD i default) != 0) = true by rw [bne_iff_ne]; exact hc]; rfl
  ·rw [zV, decide_eq_false (by omega)]; rfl
 rw [show (0 : Int) = ((0 : Nat) : Int) from rfl, L]
 simp only [cond_false, Option.bind_some]
 cases findN (badP l) 0 l.length <;> rfl
theorem wC {n b : Nat} (h1 : n ≤ 1000000) (h2 : b ≤ 1000000) : room n b = true := room_t (by
 have := Nat.mul_le_mul h1 h2; omega)
def sizStep (l : List Product) (t : Int) (i : Nat) (s : List Int × List Int) : List Int × List Int :=
 bif (qS (l.getD i default)).1 == t then (s.1 ++ [(qS (l.getD i default)).2], s.2 ++ [(i : Int)])
 else bif (qS (l.getD i default)).2 == t then (s.1 ++ [(qS (l.getD i default)).1], s.2 ++ [(i : Int)])
 else s
def sizes (l : List Product) (t : Int) : List Int × List Int := if zY l ≠ 0 then ([], []) else foldN (sizStep l t) 0 l.length ([], [])
theorem qBp {l : List Product} {t : Int} {i : Nat} {s : List Int × List Int} (h : s.1.length ≤ i ∧ s.2.length ≤ i) : (sizStep l t i s).1.length ≤ i + 1 ∧ (sizStep l t i s).2.length ≤ i + 1 := by
 unfold sizStep
 cases (qS (l.getD i default)).1 == t with
 | true => simp; omega
 | false => cases (qS (l.getD i default)).2 == t with
  | true => simp; omega
  | false => simp; omega
theorem qCY {l : List Product} (h : ¬ zY l ≠ 0) : l.length ≤ 16 := by
 unfold zY at h
 by_cases q : 16 < l.length
 ·rw [if_pos q] at h; exact absurd (by decide) h
 ·omega
theorem qJD (l : List Product) (t : Int) : TF l t = some (sizes l t) ∧ qEO l t = some (sizes l t) := by
 unfold TF qEO sizes
 rw [qCw, qK3]
 simp only [Option.bind_some]
 by_cases hc : zY l ≠ 0
 ·rw [if_pos hc, show (zY l != 0) = true by rw [bne_iff_ne]; exact hc]; exact ⟨rfl, rfl⟩
 rw [if_neg hc, show (zY l != 0) = false by rw [bne_eq_false_iff_eq]; omega]
 simp only [cond_false]
 have hl := qCY hc
 have A : jC l t FUEL [] [] ((0 : Nat) : Int) = some (foldN (sizStep l t) 0 (l.length - 0) ([], [])) := by
  refine (wM l.length (fun n (s : List Int × List Int) i => jC l t n s.1 s.2 i) (sizStep l t) (fun s => s) (fun i s => s.1.length ≤ i ∧ s.2.length ≤ i) 0 (by omega) (by omega) (fun n i s hN hi => ?_) (fun n s _ => ?_) ([], []) ⟨by simp, by simp⟩).1
  ·refine ⟨?_, qBp hi⟩
   obtain ⟨s1, s2⟩ := s
   try simp only at hi
   try simp only
   rw [jC, decide_eq_true (by omega), qO (by omega) (by omega)]
   simp only [cond_true, Int.toNat_natCast, qX (show i < 4611686018427387904 by omega), (SE _).1, Option.bind_some, NL, NT, wC (show s1.length + 1 ≤ 1000000 by omega) (show 8 ≤ 1000000 by omega), wC (show s2.length + 1 ≤ 1000000 by omega) (show 8 ≤ 1000000 by omega), sizStep]
   rw [show (t == (qS (l.getD i default)).1) = ((qS (l.getD i default)).1 == t) from Bool.eq_iff_iff.2 (by rw [beq_iff_eq, beq_iff_eq]; exact eq_comm), show (t == (qS (l.getD i default)).2) = ((qS (l.getD i default)).2 == t) from Bool.eq_iff_iff.2 (by rw [beq_iff_eq, beq_iff_eq]; exact eq_comm)]
   cases (qS (l.getD i default)).1 == t <;> cases (qS (l.getD i default)).2 == t <;> rfl
  ·rw [jC, decide_eq_false (by omega)]; rfl
 have B : QB l t FUEL [] [] ((0 : Nat) : Int) = some (foldN (sizStep l t) 0 (l.length - 0) ([], [])) := by
  refine (wM l.length (fun n (s : List Int × List Int) i => QB l t n s.1 s.2 i) (sizStep l t) (fun s => s) (fun i s => s.1.length ≤ i ∧ s.2.length ≤ i) 0 (by omega) (by omega) (fun n i s hN hi => ?_) (fun n s _ => ?_) ([], []) ⟨by simp, by simp⟩).1
  ·refine ⟨?_, qBp hi⟩
   obtain ⟨s1, s2⟩ := s
   try simp only at hi
   try simp only
   rw [QB, decide_eq_true (by omega), qO (by omega) (by omega)]
   simp only [cond_true, Int.toNat_natCast, qX (show i < 4611686018427387904 by omega), (SE _).2, Option.bind_some, DQ, wC (show s1.length + 1 ≤ 1000000 by omega) (show 8 ≤ 1000000 by omega), wC (show s2.length + 1 ≤ 1000000 by omega) (show 8 ≤ 1000000 by omega), sizStep]
   cases (qS (l.getD i default)).1 == t <;> cases (qS (l.getD i default)).2 == t <;> rfl
  ·rw [QB, decide_eq_false (by omega)]; rfl
 rw [show ((0 : Nat) : Int) = 0 from rfl] at A B
 rw [A, B]
 exact ⟨rfl, rfl⟩
theorem qDV (l : List Product) (t : Int) : (sizes l t).1.length ≤ 16 ∧ (sizes l t).2.length ≤ 16 := by
 unfold sizes
 by_cases hc : zY l ≠ 0
 ·rw [if_pos hc]; simp
 rw [if_neg hc]
 have hl := qCY hc
 have : ∀ k, (foldN (sizStep l t) 0 k ([], [])).1.length ≤ k ∧ (foldN (sizStep l t) 0 k ([], [])).2.length ≤ k := by
  intro k
  induction k with
  | zero => simp [foldN]
  | succ k ih => rw [JH, Nat.zero_add]; exact qBp ih
 have := this l.length
 omega
def shortP (p : Product) : Bool := decide (p.Lengths.length ≤ 12) && (decide (p.Prices.length ≤ 12) && decide (p.Name.size ≤ 100))
def badSh (l : List Product) (i : Nat) : Option Bool := if 20 ≤ i then some false else bif shortP (l.getD i default) then none else some false
theorem qCf (l : List Product) (n i : Nat) (hi : i < l.length) (hi' : i ≤ 20) : zQ l (n + 1) (i : Int) = match badSh l i with | some e => some (.inl e) | none => zQ l n ((i + 1 : Nat) : Int) := by
 rw [zQ, decide_eq_true (by omega)]
 simp only [cond_true, Int.toNat_natCast, qX (show i < 4611686018427387904 by omega), qO (show (0 : Int) ≤ (i : Int) by omega) (show (i : Int) < (l.length : Int) by omega), JY, badSh]
 by_cases h1 : 20 ≤ i
 ·rw [if_pos h1, decide_eq_true (show (i : Int) ≥ 20 by omega)]; rfl
 rw [if_neg h1, decide_eq_false (show ¬ (i : Int) ≥ 20 by omega)]
 unfold shortP
 by_cases h2 : (l.getD i default).Lengths.length ≤ 12
 ·rw [decide_eq_true h2, decide_eq_false (show ¬ (((l.getD i default).Lengths.length : Nat) : Int) > 12 by omega)]
  by_cases h3 : (l.getD i default).Prices.length ≤ 12
  ·rw [decide_eq_true h3, decide_eq_false (show ¬ (((l.getD i default).Prices.length : Nat) : Int) > 12 by omega)]
   by_cases h4 : (l.getD i default).Name.size ≤ 100
   ·rw [decide_eq_true h4, decide_eq_false (show ¬ (((l.getD i default).Name.size : Nat) : Int) > 100 by omega)]; rfl
   ·rw [decide_eq_false h4, decide_eq_true (show (((l.getD i default).Name.size : Nat) : Int) > 100 by omega)]; rfl
  ·rw [decide_eq_false h3, decide_eq_true (show (((l.getD i default).Prices.length : Nat) : Int) > 12 by omega)]; rfl
 ·rw [decide_eq_false h2, decide_eq_true (show (((l.getD i default).Lengths.length : Nat) : Int) > 12 by omega)]; rfl
theorem qFY (l : List Product) (h : 20 < l.length) : ∀ (k n i : Nat), i + k = 20 → k < n → zQ l n (i : Int) = some (.inl false)
 | 0, n + 1, i, hi, hn => by
  rw [qCf l n i (by omega) (by omega), badSh, if_pos (by omega)]
 | k + 1, n + 1, i, hi, hn => by
  rw [qCf l n i (by omega) (by omega), badSh, if_neg (by omega)]
  cases shortP (l.getD i default) with
  | false => rfl
  | true => exact qFY l h k n (i + 1) (by omega) (by omega)
def isShort (l : List Product) : Bool := decide (l.length ≤ 20) && l.all shortP
theorem qOk (l : List Product) : BX l = some (isShort l) := by
 unfold BX isShort
 by_cases h : 20 < l.length
 ·rw [show (0 : Int) = ((0 : Nat) : Int) from rfl, qFY l h 20 FUEL 0 rfl (by rw [FUEL_eq]; omega), decide_eq_false (by omega)]; rfl
 have L : zQ l FUEL ((0 : Nat) : Int) = some (findN (badSh l) 0 (l.length - 0)) := by
  refine jK l.length (zQ l) _ 0 (by omega) (by omega) (fun n i hi hN => by rw [qCf l n i hN (by omega)]; cases badSh l i <;> rfl) (fun n => ?_)
  rw [zQ, decide_eq_false (by omega)]; rfl
 rw [show ((0 : Nat) : Int) = 0 from rfl] at L
 rw [L, decide_eq_true (by omega), Bool.true_and]
 simp only [Option.bind_some]
 cases hf : findN (badSh l) 0 (l.length - 0) with
 | inl e =>
  obtain ⟨i, a, b, c, d⟩ := WD hf
  unfold badSh at c
  rw [if_neg (by omega)] at c
  cases hs : shortP (l.getD i default) with
  | true => rw [hs] at c; cases c
  | false =>
   rw [hs] at c
   cases c
   simp only [Sum.elim_inl]
   congr 1
   symm
   rw [Bool.eq_false_iff]
   intro q
   rw [List.all_eq_true] at q
   rw [q _ (XS (by omega))] at hs
   cases hs
 | inr u =>
  simp only [Sum.elim_inr]
  congr 1
  symm
  rw [List.all_eq_true]
  intro p hp
  obtain ⟨i, hi, e⟩ := List.getElem_of_mem hp
  have := JJ.1 hf i (by omega) (by omega)
  unfold badSh at this
  rw [if_neg (by omega), show l.getD i default = p by rw [List.getD_eq_getElem?_getD, List.getElem?_eq_getElem hi, e]; rfl] at this
  cases hs : shortP p with
  | true => rfl
  | false => rw [hs] at this; cases this
end Saw
end Go.SL
