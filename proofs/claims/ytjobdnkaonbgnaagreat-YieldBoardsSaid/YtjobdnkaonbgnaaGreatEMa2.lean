/- Edge's plain mathematics, part 1: names, products, and both product checks. -/
import Derived.Test.YtjobdnkaonbgnaaGreatEMa1
set_option linter.unusedVariables false
set_option linter.unusedSimpArgs false
namespace Go.SL
namespace Saw
def smallc (c : Int) : Bool := decide (97 ≤ c) && decide (c ≤ 122)
def digitc (c : Int) : Bool := decide (48 ≤ c) && decide (c ≤ 57)
theorem qHp (c : Int) : XQ c = some (smallc c) := by
 unfold XQ TD smallc; cases decide (97 ≤ c) <;> rfl
theorem qOg (c : Int) : UB c = some (digitc c) := by
 unfold UB TS digitc; cases decide (48 ≤ c) <;> rfl
theorem qLH (c : Int) : LF c = some (digitc c) := by
 unfold LF NK digitc
 show (bif decide (48 ≤ c) then _ else _) = _
 cases decide (48 ≤ c) <;> rfl
def badc (b : ByteArray) (i : Nat) : Option Bool := bif smallc (strAt b i) || (digitc (strAt b i) || strAt b i == 95) then none else some false
def isNm (b : ByteArray) : Bool :=
 if b.size < 1 ∨ 16 < b.size then false
 else bif smallc (strAt b 0) then (match findN (badc b) 1 (b.size - 1) with | .inl e => e | .inr _ => true) else false
theorem qPe (b : ByteArray) : DA b = some (isNm b) := by
 unfold DA isNm KY
 by_cases h1 : b.size < 1
 ·rw [decide_eq_true (show ((b.size : Nat) : Int) < 1 by omega), if_pos (.inl h1)]; rfl
 rw [decide_eq_false (show ¬ ((b.size : Nat) : Int) < 1 by omega)]
 by_cases h2 : 16 < b.size
 ·rw [decide_eq_true (show ((b.size : Nat) : Int) > 16 by omega), if_pos (.inr h2)]; rfl
 rw [decide_eq_false (show ¬ ((b.size : Nat) : Int) > 16 by omega), if_neg (by omega), zA (by omega) (by omega)]
 have L : wM b FUEL ((1 : Nat) : Int) = some (findN (badc b) 1 (b.size - 1)) := by
  refine QO b.size (wM b) (badc b) 1 (by omega) (by omega) (fun n i hi hN => ?_) (fun n => ?_)
  ·rw [wM, decide_eq_true (by omega), zA (by omega) (by omega)]
   simp only [cond_true, Int.toNat_natCast, qHp, qOg, Option.bind_some, KM, zF (show i < 4611686018427387904 by omega), badc]
   cases smallc (strAt b i) <;> cases digitc (strAt b i) <;> cases h : strAt b i == 95 <;> simp [bne, h]
  ·rw [wM, decide_eq_false (by omega)]; rfl
 simp only [cond_false, cond_true, qHp, Option.bind_some, Int.toNat_zero]
 rw [show (1 : Int) = ((1 : Nat) : Int) from rfl, L]
 cases smallc (strAt b 0) with
 | false => rfl
 | true => cases findN (badc b) 1 (b.size - 1) <;> rfl
theorem qKT (b : ByteArray) : DO b = some (isNm b) := by
 unfold DO isNm GE
 by_cases h1 : b.size < 1
 ·rw [decide_eq_true (show ((b.size : Nat) : Int) < 1 by omega), if_pos (.inl h1)]; rfl
 rw [decide_eq_false (show ¬ ((b.size : Nat) : Int) < 1 by omega)]
 by_cases h2 : 16 < b.size
 ·rw [decide_eq_true (show ((b.size : Nat) : Int) > 16 by omega), if_pos (.inr h2)]; rfl
 rw [decide_eq_false (show ¬ ((b.size : Nat) : Int) > 16 by omega), if_neg (by omega)]
 have hs : ∀ c : Int, decide (c ≥ 97) = decide (97 ≤ c) := fun c => rfl
 have L : wO b FUEL ((0 : Nat) : Int) = some (findN (fun i => bif smallc (strAt b i) then none else if i = 0 then some false else badc b i) 0 (b.size - 0)) := by
  refine QO b.size (wO b) _ 0 (by omega) (by omega) (fun n i hi hN => ?_) (fun n => ?_)
  ·rw [wO, decide_eq_true (by omega), zA (by omega) (by omega)]
   simp only [cond_true, Int.toNat_natCast, qLH, Option.bind_some, GA, WY, zF (show i < 4611686018427387904 by omega), badc, zA (show (0 : Int) ≤ (i : Int) by omega) (show (i : Int) < (b.size : Int) by omega)]
   by_cases h0 : i = 0
   ·subst h0
    simp only [smallc, hs]
    cases decide (97 ≤ strAt b 0) <;> cases decide (strAt b 0 ≤ 122) <;> rfl
   ·have e : ((i : Int) == 0) = false := by rw [beq_eq_false_iff_ne]; omega
    simp only [smallc, hs, e, if_neg h0]
    cases decide (97 ≤ strAt b i) <;> cases decide (strAt b i ≤ 122) <;> cases h : strAt b i == 95 <;> cases digitc (strAt b i) <;> simp [bne, h]
  ·rw [wO, decide_eq_false (by omega)]; rfl
 simp only [cond_false]
 rw [show (0 : Int) = ((0 : Nat) : Int) from rfl, L]
 obtain ⟨m, hm⟩ : ∃ m, b.size = m + 1 := ⟨b.size - 1, by omega⟩
 rw [hm, Nat.sub_zero, findN]
 simp only [if_true]
 cases hs0 : smallc (strAt b 0) with
 | false => rfl
 | true =>
  simp only [cond_true]
  rw [qGc (b2 := badc b) (fun i h1 h2 => by
   have : ¬ i = 0 := by omega
   rw [if_neg this]
   unfold badc
   cases smallc (strAt b i) <;> rfl)]
  rw [show m + 1 - 1 = m by omega]
  show ((some (findN (badc b) 1 m)).bind _) = _
  cases findN (badc b) 1 m <;> rfl
/-! ### Green -/
def okSz (n : Int) : Bool := decide (n ≥ 1) && decide (n ≤ 600)
theorem qPo (n : Int) : JZ n = some (okSz n) := by
 unfold JZ PE okSz; cases decide (n ≥ 1) <;> rfl
def qBZ (n a : Int) : Int := Int.tdiv (n * (1000 + a) + 999) 1000
theorem qAJ {n a : Int} (h1 : 1 ≤ n) (h2 : n ≤ 600) (h3 : 0 ≤ a) (h4 : a ≤ 200) : w64 (Int.tdiv (w64 (w64 (n * w64 (1000 + a)) + 999)) 1000) = qBZ n a ∧ n ≤ qBZ n a ∧ qBZ n a ≤ 721 := by
 have h5 : w64 (1000 + a) = 1000 + a := qP (by omega) (by omega)
 have hb := Int.mul_le_mul h2 (show 1000 + a ≤ 1200 by omega) (by omega) (by omega)
 have ha := Int.mul_le_mul (Int.le_refl n) (show 1000 ≤ 1000 + a by omega) (by omega) (by omega)
 have h6 : w64 (n * (1000 + a)) = n * (1000 + a) := qP (by omega) (by omega)
 have h7 : w64 (n * (1000 + a) + 999) = n * (1000 + a) + 999 := qP (by omega) (by omega)
 rw [h5, h6, h7]
 have h8 : Int.tdiv (n * (1000 + a) + 999) 1000 = (n * (1000 + a) + 999) / 1000 := Int.tdiv_eq_ediv_of_nonneg (by omega)
 unfold qBZ
 rw [h8]
 refine ⟨qP (by omega) (by omega), by omega, by omega⟩
def okG (p : Product) : Bool := okSz p.Thick && (okSz p.Width && (decide (0 ≤ p.Allow) && decide (p.Allow ≤ 200)))
theorem qJe {p : Product} : okG p = true ↔ (1 ≤ p.Thick ∧ p.Thick ≤ 600) ∧ (1 ≤ p.Width ∧ p.Width ≤ 600) ∧ 0 ≤ p.Allow ∧ p.Allow ≤ 200 := by
 unfold okG okSz; simp
def zV (p : Product) : Int × Int := bif okG p then (qBZ p.Thick p.Allow, qBZ p.Width p.Allow) else (0, 0)
theorem qPL (p : Product) : 0 ≤ (zV p).1 ∧ (zV p).1 ≤ 721 ∧ 0 ≤ (zV p).2 ∧ (zV p).2 ≤ 721 := by
 unfold zV
 cases h : okG p with
 | false => simp only [cond_false]; omega
 | true =>
  obtain ⟨⟨a, b⟩, ⟨c, d⟩, e, f⟩ := qJe.1 h
  have g1 := qAJ a b e f
  have g2 := qAJ c d e f
  simp only [cond_true]
  omega
theorem AM (p : Product) : JF p = some (zV p) ∧ JT p = some (zV p) := by
 unfold JF JT IE YE ZT PU BC zV
 simp only [qPo, Option.bind_some]
 by_cases h : okG p = true
 ·obtain ⟨⟨a, b⟩, ⟨c, d⟩, e, f⟩ := qJe.1 h
  have g1 := qAJ a b e f
  have g2 := qAJ c d e f
  rw [h]
  unfold okSz
  rw [decide_eq_true (show p.Thick ≥ 1 from a), decide_eq_true b, decide_eq_true (show p.Width ≥ 1 from c), decide_eq_true d, decide_eq_false (show ¬ p.Allow < 0 by omega), decide_eq_false (show ¬ p.Allow > 200 by omega)]
  simp only [Bool.and_self, Bool.not_true, cond_true, cond_false, Option.bind_some]
  rw [g1.1, g2.1]
  exact ⟨rfl, rfl⟩
 ·rw [Bool.not_eq_true] at h
  have h' := h
  unfold okG at h'
  rw [h]
  have e1 : decide (p.Allow < 0) = !decide (0 ≤ p.Allow) := by by_cases q : p.Allow < 0 <;> simp [q] <;> omega
  have e2 : decide (p.Allow > 200) = !decide (p.Allow ≤ 200) := by by_cases q : p.Allow > 200 <;> simp [q] <;> omega
  rw [e1, e2]
  unfold okSz at h' ⊢
  revert h'
  cases decide (p.Thick ≥ 1) <;> cases decide (p.Thick ≤ 600) <;> cases decide (p.Width ≥ 1) <;> cases decide (p.Width ≤ 600) <;> cases decide (0 ≤ p.Allow) <;> cases decide (p.Allow ≤ 200) <;> simp
/-! ### The checks -/
def badLen (p : Product) (i : Nat) : Option Int :=
 if p.Lengths.getD i default < 100 ∨ 20000 < p.Lengths.getD i default then some 9
 else if 0 < i ∧ p.Lengths.getD i default ≤ p.Lengths.getD (i - 1) default then some 11 else none
def badPr (n : Int) : Option Int := if n < 0 ∨ 1000000 < n then some 9 else none
def qA2 (p : Product) : Int :=
 if p.Lengths.length = 0 then 3 else if 8 < p.Lengths.length then 4 else if p.Prices.length ≠ p.Lengths.length then 19
 else match findN (badLen p) 0 p.Lengths.length with
  | .inl e => e
  | .inr _ => match findE badPr p.Prices with
   | .inl e => e
   | .inr _ => 0
theorem qNy (p : Product) (h : p.Lengths.length ≤ 8) : zI p FUEL 0 = some (findN (badLen p) 0 p.Lengths.length) ∧ zO p FUEL 0 = some (findN (badLen p) 0 p.Lengths.length) := by
 refine ⟨QO p.Lengths.length (zI p) (badLen p) 0 (by omega) (by omega) (fun n i hi hN => ?_) (fun n => ?_), QO p.Lengths.length (zO p) (badLen p) 0 (by omega) (by omega) (fun n i hi hN => ?_) (fun n => ?_)⟩
 ·rw [zI, decide_eq_true (by omega), zA (by omega) (by omega)]
  simp only [cond_true, Int.toNat_natCast, ZK, ZH, zF (show i < 4611686018427387904 by omega), badLen]
  by_cases h1 : p.Lengths.getD i default < 100
  ·rw [decide_eq_true h1, if_pos (.inl h1)]; rfl
  rw [decide_eq_false h1]
  by_cases h2 : 20000 < p.Lengths.getD i default
  ·rw [decide_eq_true (show p.Lengths.getD i default > 20000 from h2), if_pos (.inr h2)]; rfl
  rw [decide_eq_false (show ¬ p.Lengths.getD i default > 20000 from h2), if_neg (by omega)]
  simp only [cond_false]
  by_cases h3 : 0 < i
  ·rw [decide_eq_true (show (i : Int) > 0 by omega), show w64 ((i : Int) - 1) = ((i - 1 : Nat) : Int) by rw [qP (by omega) (by omega)]; omega, zA (by omega) (by omega)]
   simp only [cond_true, Int.toNat_natCast]
   by_cases h4 : p.Lengths.getD i default ≤ p.Lengths.getD (i - 1) default
   ·rw [decide_eq_true h4, if_pos ⟨h3, h4⟩]; rfl
   ·rw [decide_eq_false h4, if_neg (fun q => h4 q.2)]; rfl
  ·rw [decide_eq_false (show ¬ (i : Int) > 0 by omega), if_neg (fun q => h3 q.1)]; rfl
 ·rw [zI, decide_eq_false (by omega)]; rfl
 ·rw [zO, decide_eq_true (by omega), zA (by omega) (by omega)]
  simp only [cond_true, Int.toNat_natCast, WT, WX, zF (show i < 4611686018427387904 by omega), badLen]
  by_cases h1 : p.Lengths.getD i default < 100
  ·rw [decide_eq_true h1, if_pos (.inl h1)]; rfl
  rw [decide_eq_false h1]
  by_cases h2 : 20000 < p.Lengths.getD i default
  ·rw [decide_eq_true (show p.Lengths.getD i default > 20000 from h2), if_pos (.inr h2)]; rfl
  rw [decide_eq_false (show ¬ p.Lengths.getD i default > 20000 from h2), if_neg (by omega)]
  simp only [cond_false]
  by_cases h3 : 0 < i
  ·rw [decide_eq_true (show (i : Int) > 0 by omega), show w64 ((i : Int) - 1) = ((i - 1 : Nat) : Int) by rw [qP (by omega) (by omega)]; omega, zA (by omega) (by omega), zA (by omega) (by omega)]
   simp only [cond_true, Int.toNat_natCast]
   by_cases h4 : p.Lengths.getD i default ≤ p.Lengths.getD (i - 1) default
   ·rw [decide_eq_true h4, if_pos ⟨h3, h4⟩]; rfl
   ·rw [decide_eq_false h4, if_neg (fun q => h4 q.2)]; rfl
  ·rw [decide_eq_false (show ¬ (i : Int) > 0 by omega), if_neg (fun q => h3 q.1)]; rfl
 ·rw [zO, decide_eq_false (by omega)]; rfl
theorem qPq (p : Product) (h : p.Prices.length ≤ 8) : zP p FUEL 0 = some (findE badPr p.Prices) ∧ zS p FUEL 0 = some (findE badPr p.Prices) := by
 refine ⟨RX p.Prices (zP p) badPr (by omega) (fun n i hN => ?_) (fun n => ?_), RX p.Prices (zS p) badPr (by omega) (fun n i hN => ?_) (fun n => ?_)⟩
 ·rw [zP, decide_eq_true (by omega), zA (by omega) (by omega)]
  simp only [cond_true, Int.toNat_natCast, ZJ, zF (show i < 4611686018427387904 by omega), badPr]
  by_cases h1 : p.Prices.getD i default < 0
  ·rw [decide_eq_true h1, if_pos (.inl h1)]; rfl
  rw [decide_eq_false h1]
  by_cases h2 : 1000000 < p.Prices.getD i default
  ·rw [decide_eq_true (show p.Prices.getD i default > 1000000 from h2), if_pos (.inr h2)]; rfl
  rw [decide_eq_false (show ¬ p.Prices.getD i default > 1000000 from h2), if_neg (by omega)]; rfl
 ·rw [zP, decide_eq_false (by omega)]; rfl
 ·rw [zS, decide_eq_true (by omega), zA (by omega) (by omega)]
  simp only [cond_true, Int.toNat_natCast, WV, zF (show i < 4611686018427387904 by omega), badPr]
  by_cases h1 : p.Prices.getD i default < 0
  ·rw [decide_eq_true h1, if_pos (.inl h1)]; rfl
  rw [decide_eq_false h1]
  by_cases h2 : 1000000 < p.Prices.getD i default
  ·rw [decide_eq_true (show p.Prices.getD i default > 1000000 from h2), if_pos (.inr h2)]; rfl
  rw [decide_eq_false (show ¬ p.Prices.getD i default > 1000000 from h2), if_neg (by omega)]; rfl
 ·rw [zS, decide_eq_false (by omega)]; rfl
theorem qO2 (p : Product) : WN p = some (qA2 p) := by
 unfold WN qA2
 by_cases h0 : p.Lengths.length = 0
 ·rw [if_pos h0, h0]; rfl
 rw [if_neg h0, show (((p.Lengths.length : Nat) : Int) == 0) = false by rw [beq_eq_false_iff_ne]; omega]
 by_cases h1 : 8 < p.Lengths.length
 ·rw [if_pos h1, decide_eq_true (by omega)]; rfl
 rw [if_neg h1, decide_eq_false (by omega)]
 by_cases h2 : p.Prices.length ≠ p.Lengths.length
 ·rw [if_pos h2, show (((p.Prices.length : Nat) : Int) != ((p.Lengths.length : Nat) : Int)) = true by rw [bne_iff_ne]; omega]; rfl
 rw [if_neg h2, show (((p.Prices.length : Nat) : Int) != ((p.Lengths.length : Nat) : Int)) = false by rw [bne_eq_false_iff_eq]; omega]
 simp only [cond_false]
 rw [(qNy p (by omega)).2, (qPq p (by omega)).2]
 cases findN (badLen p) 0 p.Lengths.length with
 | inl e => rfl
 | inr u => cases findE badPr p.Prices <;> rfl
def PZ (p : Product) : Int :=
 if p.Thick < 5 ∨ 300 < p.Thick ∨ p.Width < p.Thick ∨ 600 < p.Width ∨ p.Allow < 0 ∨ 200 < p.Allow ∨ p.Wane < 0 ∨ 1000 < p.Wane then 9
 else if 600 < (zV p).2 then 9 else qA2 p
theorem qOF (p : Product) : QI p = some (PZ p) := by
 unfold QI wR PZ
 by_cases h1 : p.Thick < 5
 ·rw [if_pos (.inl h1), decide_eq_true h1]; rfl
 rw [decide_eq_false h1]
 by_cases h2 : p.Thick > 300
 ·rw [if_pos (by omega), decide_eq_true h2]; rfl
 rw [decide_eq_false h2]
 by_cases h3 : p.Width < p.Thick
 ·rw [if_pos (by omega), decide_eq_true h3]; rfl
 rw [decide_eq_false h3]
 by_cases h4 : p.Width > 600
 ·rw [if_pos (by omega), decide_eq_true h4]; rfl
 rw [decide_eq_false h4]
 simp only [cond_false]
 unfold wQ
 by_cases h5 : p.Allow < 0
 ·rw [if_pos (by omega), decide_eq_true h5]; rfl
 rw [decide_eq_false h5]
 by_cases h6 : p.Allow > 200
 ·rw [if_pos (by omega), decide_eq_true h6]; rfl
 rw [decide_eq_false h6]
 by_cases h7 : p.Wane < 0
 ·rw [if_pos (by omega), decide_eq_true h7]; rfl
 rw [decide_eq_false h7]
 by_cases h8 : p.Wane > 1000
 ·rw [if_pos (by omega), decide_eq_true h8]; rfl
 rw [decide_eq_false h8, if_neg (by omega)]
 simp only [cond_false, (AM p).1, Option.bind_some]
 by_cases h9 : 600 < (zV p).2
 ·rw [if_pos h9, decide_eq_true (show (zV p).2 > 600 from h9)]; rfl
 rw [if_neg h9, decide_eq_false (show ¬ (zV p).2 > 600 from h9)]
 unfold qA2
 by_cases h0 : p.Lengths.length = 0
 ·rw [if_pos h0, h0]; rfl
 rw [if_neg h0, show (((p.Lengths.length : Nat) : Int) == 0) = false by rw [beq_eq_false_iff_ne]; omega]
 by_cases h1 : 8 < p.Lengths.length
 ·rw [if_pos h1, decide_eq_true (by omega)]; rfl
 rw [if_neg h1, decide_eq_false (by omega)]
 by_cases h2 : p.Prices.length ≠ p.Lengths.length
 ·rw [if_pos h2, show (((p.Prices.length : Nat) : Int) != ((p.Lengths.length : Nat) : Int)) = true by rw [bne_iff_ne]; omega]; rfl
 rw [if_neg h2, show (((p.Prices.length : Nat) : Int) != ((p.Lengths.length : Nat) : Int)) = false by rw [bne_eq_false_iff_eq]; omega]
 simp only [cond_false]
 rw [(qNy p (by omega)).1, (qPq p (by omega)).1]
 cases findN (badLen p) 0 p.Lengths.length with
 | inl e => rfl
 | inr u => cases findE badPr p.Prices <;> rfl
def twin (l : List Product) (x : Nat) (i : Nat) : Option Int := bif strEq ((l.getD i default).Name) ((l.getD x default).Name) then some 7 else none
def badP (l : List Product) (x : Nat) : Option Int :=
 bif isNm (l.getD x default).Name then
  match findN (twin l x) 0 x with
  | .inl e => some e
  | .inr _ => bif PZ (l.getD x default) != 0 then some (PZ (l.getD x default)) else none
 else some 6
def QE (l : List Product) : Int := if 16 < l.length then 4 else match findN (badP l) 0 l.length with | .inl e => e | .inr _ => 0
def fnd (l : List Product) (s : ByteArray) : Nat → Option (Int × Bool) := fun i => bif strEq ((l.getD i default).Name) s then some ((i : Int), true) else none
theorem Find_eq (l : List Product) (s : ByteArray) (h : l.length ≤ 1000000) : BH l s = some (match findN (fnd l s) 0 l.length with | .inl e => e | .inr _ => (0, false)) := by
 unfold BH
 have L : QX l s FUEL ((0 : Nat) : Int) = some (findN (fnd l s) 0 l.length) := by
  refine QO l.length (QX l s) _ 0 (by omega) (by omega) (fun n i hi hN => ?_) (fun n => ?_)
  ·rw [QX, decide_eq_true (by omega), zA (by omega) (by omega)]
   simp only [cond_true, Int.toNat_natCast, zF (show i < 4611686018427387904 by omega), fnd]
   cases strEq (l.getD i default).Name s <;> rfl
  ·rw [QX, decide_eq_false (by omega)]; rfl
 rw [show (0 : Int) = ((0 : Nat) : Int) from rfl, L]
 simp only [Option.bind_some]
 cases findN (fnd l s) 0 l.length <;> rfl
theorem qJH {α : Type} [Inhabited α] (l : List α) {i x : Nat} (h : i < x) : (l.take x).getD i default = l.getD i default := by
 simp [List.getD_eq_getElem?_getD, List.getElem?_take, h]
theorem qPr (l : List Product) {x : Nat} (hx : x ≤ l.length) : (match findN (fnd (l.take x) (l.getD x default).Name) 0 (l.take x).length with | .inl e => e | .inr _ => ((0 : Int), false)).2 = (match findN (twin l x) 0 x with | .inl _ => true | .inr _ => false) ∧ ∀ e, findN (twin l x) 0 x = .inl e → e = 7 := by
 have hl : (l.take x).length = x := by rw [List.length_take]; omega
 rw [hl]
 constructor
 ·cases h1 : findN (twin l x) 0 x with
  | inr u =>
   have h2 : findN (fnd (l.take x) (l.getD x default).Name) 0 x = .inr () := by
    rw [TR]
    intro i a b
    have := TR.1 h1 i a b
    unfold twin at this
    unfold fnd
    rw [qJH l (by omega)]
    cases hq : strEq (l.getD i default).Name (l.getD x default).Name with
    | true => rw [hq] at this; cases this
    | false => rfl
   rw [h2]
  | inl e =>
   obtain ⟨i, a, b, c, d⟩ := WF h1
   cases h2 : findN (fnd (l.take x) (l.getD x default).Name) 0 x with
   | inr u =>
    have := TR.1 h2 i a b
    unfold fnd at this
    rw [qJH l (by omega)] at this
    unfold twin at c
    cases hq : strEq (l.getD i default).Name (l.getD x default).Name with
    | true => rw [hq] at this; cases this
    | false => rw [hq] at c; cases c
   | inl e' =>
    obtain ⟨j, a', b', c', d'⟩ := WF h2
    unfold fnd at c'
    cases hq : strEq ((l.take x).getD j default).Name (l.getD x default).Name with
    | true => rw [hq] at c'; cases c'; rfl
    | false => rw [hq] at c'; cases c'
 ·intro e h
  obtain ⟨i, a, b, c, d⟩ := WF h
  unfold twin at c
  cases hq : strEq (l.getD i default).Name (l.getD x default).Name with
  | true => rw [hq] at c; cases c; rfl
  | false => rw [hq] at c; cases c
theorem qLo (l : List Product) : XW l = some (QE l) := by
 unfold XW QE
 by_cases h : 16 < l.length
 ·rw [if_pos h, decide_eq_true (by omega)]; rfl
 rw [if_neg h, decide_eq_false (by omega)]
 have L : yX l FUEL ((0 : Nat) : Int) = some (findN (badP l) 0 l.length) := by
  refine QO l.length (yX l) _ 0 (by omega) (by omega) (fun n i hi hN => ?_) (fun n => ?_)
  ·rw [yX, decide_eq_true (by omega), zA (by omega) (by omega)]
   have hs : slOk 0 (i : Int) l.length = true := by unfold slOk; exact decide_eq_true (by omega)
   simp only [cond_true, Int.toNat_natCast, zF (show i < 4611686018427387904 by omega), qPe, Option.bind_some, hs, Find_eq (l.take i) (l.getD i default).Name (by rw [List.length_take]; omega), qOF, badP]
   cases isNm (l.getD i default).Name with
   | false => rfl
   | true =>
    obtain ⟨f1, f2⟩ := qPr l (x := i) (by omega)
    simp only [Bool.not_true, cond_false, f1]
    cases hf : findN (twin l i) 0 i with
    | inl e => rw [f2 e hf]; rfl
    | inr u =>
     simp only [cond_false, cond_true]
     by_cases hc : PZ (l.getD i default) = 0
     ·rw [hc]; rfl
     ·rw [show (PZ (l.getD i default) != 0) = true by rw [bne_iff_ne]; exact hc]; rfl
  ·rw [yX, decide_eq_false (by omega)]; rfl
 rw [show (0 : Int) = ((0 : Nat) : Int) from rfl, L]
 simp only [cond_false, Option.bind_some]
 cases findN (badP l) 0 l.length <;> rfl
theorem qEU (l : List Product) : VF l = some (QE l) := by
 unfold VF QE
 by_cases h : 16 < l.length
 ·rw [if_pos h, decide_eq_true (by omega)]; rfl
 rw [if_neg h, decide_eq_false (by omega)]
 have L : zQ l FUEL ((0 : Nat) : Int) = some (findN (badP l) 0 l.length) := by
  refine QO l.length (zQ l) _ 0 (by omega) (by omega) (fun n i hi hN => ?_) (fun n => ?_)
  ·have L2 : ZP l (i : Int) FUEL ((0 : Nat) : Int) = some (findN (twin l i) 0 i) := by
    refine QO i (ZP l (i : Int)) _ 0 (by omega) (by omega) (fun n j hi hN => ?_) (fun n => ?_)
    ·rw [ZP, decide_eq_true (by omega), zA (by omega) (by omega)]
     simp only [cond_true, Int.toNat_natCast, zF (show j < 4611686018427387904 by omega), twin]
     cases strEq (l.getD j default).Name (l.getD i default).Name <;> rfl
    ·rw [ZP, decide_eq_false (by omega)]; rfl
   rw [show ((0 : Nat) : Int) = 0 from rfl] at L2
   rw [zQ, decide_eq_true (by omega), zA (by omega) (by omega)]
   simp only [cond_true, Int.toNat_natCast, zF (show i < 4611686018427387904 by omega), qKT, Option.bind_some, L2, qO2, badP, jF, (AM _).2]
   cases isNm (l.getD i default).Name with
   | false => rfl
   | true =>
    simp only [Bool.not_true, cond_false, cond_true]
    cases hf : findN (twin l i) 0 i with
    | inl e => rfl
    | inr u =>
     simp only [Sum.elim_inr]
     unfold PZ
     by_cases h1 : (l.getD i default).Thick < 5
     ·rw [if_pos (.inl h1), decide_eq_true h1]; rfl
     rw [decide_eq_false h1]
     by_cases h2 : (l.getD i default).Thick > 300
     ·rw [if_pos (show _ ∨ _ by omega), decide_eq_true h2]; rfl
     rw [decide_eq_false h2]
     by_cases h3 : (l.getD i default).Width < (l.getD i default).Thick
     ·rw [if_pos (show _ ∨ _ by omega), decide_eq_true h3]; rfl
     rw [decide_eq_false h3]
     by_cases h4 : (l.getD i default).Width > 600
     ·rw [if_pos (show _ ∨ _ by omega), decide_eq_true h4]; rfl
     rw [decide_eq_false h4]
     by_cases h5 : (l.getD i default).Allow < 0
     ·rw [if_pos (show _ ∨ _ by omega), decide_eq_true h5]; rfl
     rw [decide_eq_false h5]
     by_cases h6 : (l.getD i default).Allow > 200
     ·rw [if_pos (show _ ∨ _ by omega), decide_eq_true h6]; rfl
     rw [decide_eq_false h6]
     by_cases h7 : (l.getD i default).Wane < 0
     ·rw [if_pos (show _ ∨ _ by omega), decide_eq_true h7]; rfl
     rw [decide_eq_false h7]
     by_cases h8 : (l.getD i default).Wane > 1000
     ·rw [if_pos (show _ ∨ _ by omega), decide_eq_true h8]; rfl
     rw [decide_eq_false h8, if_neg (show ¬ ((l.getD i default).Thick < 5 ∨ 300 < (l.getD i default).Thick ∨ (l.getD i default).Width < (l.getD i default).Thick ∨ 600 < (l.getD i default).Width ∨ (l.getD i default).Allow < 0 ∨ 200 < (l.getD i default).Allow ∨ (l.getD i default).Wane < 0 ∨ 1000 < (l.getD i default).Wane) by omega)]
     simp only [cond_false]
     by_cases h9 : 600 < (zV (l.getD i default)).2
     ·rw [if_pos h9, decide_eq_true (show (zV (l.getD i default)).2 > 600 from h9)]; rfl
     rw [if_neg h9, decide_eq_false (show ¬ (zV (l.getD i default)).2 > 600 from h9)]
     by_cases hc : qA2 (l.getD i default) = 0
     ·rw [hc]; rfl
     ·rw [show (qA2 (l.getD i default) != 0) = true by rw [bne_iff_ne]; exact hc]; rfl
  ·rw [zQ, decide_eq_false (by omega)]; rfl
 rw [show (0 : Int) = ((0 : Nat) : Int) from rfl, L]
 simp only [cond_false, Option.bind_some]
 cases findN (badP l) 0 l.length <;> rfl
theorem JN {n b : Nat} (h1 : n ≤ 1000000) (h2 : b ≤ 1000000) : room n b = true := room_t (by
 have := Nat.mul_le_mul h1 h2; omega)
theorem qOK {l : List Product} (h : ¬ QE l ≠ 0) : l.length ≤ 16 := by
 unfold QE at h
 by_cases q : 16 < l.length
 ·rw [if_pos q] at h; exact absurd (by decide) h
 ·omega
def empS (s : Span) : Bool := decide (s.B ≤ s.A)
def rngS (s : Span) : Bool := (decide (-600 ≤ s.A) && decide (s.A ≤ 600)) && (decide (-600 ≤ s.B) && decide (s.B ≤ 600))
def qDG (s : Span) : Bool := (s.A == 0) && (s.B == 0)
theorem AZ {s : Span} : rngS s = true ↔ (-600 ≤ s.A ∧ s.A ≤ 600) ∧ (-600 ≤ s.B ∧ s.B ≤ 600) := by unfold rngS; simp
theorem IN (s : Span) : WQ s = some (empS s) := rfl
theorem qDn (s : Span) : JP s = some (empS s) := rfl
theorem qFk (s : Span) : KH s = some (rngS s) := by
 have e : rngS s = (decide (imin s.A s.B ≥ -600) && decide (imax s.A s.B ≤ 600)) := by
  rw [Bool.eq_iff_iff, AZ, Bool.and_eq_true, decide_eq_true_eq, decide_eq_true_eq, ge_iff_le, le_imin, qQd]
  omega
 unfold KH KK
 rw [e]
 cases decide (imin s.A s.B ≥ -600) <;> rfl
theorem qHH (n : Int) : PS n = some (!(decide (-600 ≤ n) && decide (n ≤ 600))) := by
 unfold PS GK
 by_cases h1 : n < -600
 ·rw [decide_eq_true h1, decide_eq_false (show ¬ -600 ≤ n by omega)]; rfl
 ·rw [decide_eq_false h1, decide_eq_true (show -600 ≤ n by omega)]
  by_cases h2 : n > 600
  ·rw [decide_eq_true h2, decide_eq_false (show ¬ n ≤ 600 by omega)]; rfl
  ·rw [decide_eq_false h2, decide_eq_true (show n ≤ 600 by omega)]; rfl
def bad9 (s : Span) : Option Int := bif rngS s then none else some 9
def bad19 (s : Span) : Option Int := bif empS s && !qDG s then some 19 else none
def qI1 (s : qK) : Int :=
 match findE bad9 s.Rows with
 | .inl e => e
 | .inr _ =>
  if s.Rows.length = 0 then (if s.Low = 0 then 0 else 19)
  else if empS (s.Rows.getD 0 default) = true ∨ empS (s.Rows.getD (s.Rows.length - 1) default) = true then 19
  else match findE bad19 s.Rows with
   | .inl e => e
   | .inr _ => 0
def WP (s : qK) : Int := if 120 < s.Rows.length then 4 else if s.Low < -60 ∨ 60 - (s.Rows.length : Int) < s.Low then 9 else qI1 s
theorem chk_L (s : qK) (hl : s.Rows.length ≤ 120) : yU s FUEL 0 = some (findE bad9 s.Rows) ∧ wX s FUEL 0 = some (findE bad19 s.Rows) ∧ jX s FUEL 0 = some (findE bad9 s.Rows) ∧ jT s FUEL 0 = some (findE bad19 s.Rows) := by
 have e1 : ∀ (l : List Span) (x : Nat), (l.length : Nat) < 1000 → x < l.length → decide ((x : Int) < ((l.length : Nat) : Int)) = true ∧ inb (x : Int) l.length = true ∧ w64 ((x : Int) + 1) = ((x + 1 : Nat) : Int) := fun l x h hx => ⟨decide_eq_true (by omega), zA (by omega) (by omega), zF (by omega)⟩
 refine ⟨RX s.Rows (yU s) bad9 (by omega) (fun n x hx => ?_) (fun n => ?_), RX s.Rows (wX s) bad19 (by omega) (fun n x hx => ?_) (fun n => ?_), RX s.Rows (jX s) bad9 (by omega) (fun n x hx => ?_) (fun n => ?_), RX s.Rows (jT s) bad19 (by omega) (fun n x hx => ?_) (fun n => ?_)⟩
 ·obtain ⟨a1, a2, a3⟩ := e1 s.Rows x (by omega) hx
  rw [yU]
  simp only [a1, a2, a3, cond_true, Int.toNat_natCast, qFk, Option.bind_some, bad9]
  cases rngS (s.Rows.getD x default) <;> rfl
 ·unfold yU; simp
 ·obtain ⟨a1, a2, a3⟩ := e1 s.Rows x (by omega) hx
  rw [wX]
  simp only [TM, a1, a2, a3, cond_true, Int.toNat_natCast, IN, Option.bind_some, bad19, qDG, Bool.and_true]
  cases empS (s.Rows.getD x default) <;> cases ((s.Rows.getD x default).A == 0 && (s.Rows.getD x default).B == 0) <;> rfl
 ·unfold wX; simp
 ·obtain ⟨a1, a2, a3⟩ := e1 s.Rows x (by omega) hx
  rw [jX]
  simp only [BZ, a1, a2, a3, cond_true, Int.toNat_natCast, qHH, Option.bind_some, bad9, rngS]
  cases (decide (-600 ≤ (s.Rows.getD x default).A) && decide ((s.Rows.getD x default).A ≤ 600)) <;> cases (decide (-600 ≤ (s.Rows.getD x default).B) && decide ((s.Rows.getD x default).B ≤ 600)) <;> rfl
 ·unfold jX; simp
 ·obtain ⟨a1, a2, a3⟩ := e1 s.Rows x (by omega) hx
  rw [jT]
  simp only [NL, a1, a2, a3, cond_true, Int.toNat_natCast, qDn, Option.bind_some, bad19, qDG, Bool.and_true]
  cases empS (s.Rows.getD x default) <;> cases ((s.Rows.getD x default).A == 0 && (s.Rows.getD x default).B == 0) <;> rfl
 ·unfold jT; simp
theorem qDP (s : qK) : XZ s = some (WP s) ∧ VB s = some (WP s) := by
 unfold XZ VB WP
 by_cases h : 120 < s.Rows.length
 ·rw [decide_eq_true (show ((s.Rows.length : Nat) : Int) > 120 by omega), if_pos h]; exact ⟨rfl, rfl⟩
 rw [decide_eq_false (show ¬ ((s.Rows.length : Nat) : Int) > 120 by omega), if_neg h, qP (by omega) (by omega)]
 simp only [cond_false]
 obtain ⟨l1, l2, l3, l4⟩ := chk_L s (by omega)
 by_cases h1 : s.Low < -60
 ·rw [decide_eq_true h1, if_pos (.inl h1)]; exact ⟨rfl, rfl⟩
 rw [decide_eq_false h1]
 by_cases h2 : 60 - (s.Rows.length : Int) < s.Low
 ·rw [decide_eq_true (show s.Low > _ from h2), if_pos (.inr h2)]; exact ⟨rfl, rfl⟩
 rw [decide_eq_false (show ¬ s.Low > _ from h2), if_neg (by omega)]
 unfold TW BR TL BP qI1
 simp only [cond_false, l1, l2, l3, l4, Option.bind_some, IN, qDn]
 cases findE bad9 s.Rows with
 | inl e => exact ⟨rfl, rfl⟩
 | inr u =>
  simp only [Sum.elim_inr]
  by_cases h0 : s.Rows.length = 0
  ·rw [if_pos h0, h0]
   by_cases hw : s.Low = 0
   ·rw [if_pos hw, hw]; exact ⟨rfl, rfl⟩
   ·rw [if_neg hw]
    have : (s.Low != 0) = true := by simpa using hw
    simp [this]
  ·rw [if_neg h0]
   have e0 : (((s.Rows.length : Nat) : Int) == 0) = false := by rw [beq_eq_false_iff_ne]; omega
   have e1 : w64 (((s.Rows.length : Nat) : Int) - 1) = ((s.Rows.length - 1 : Nat) : Int) := by rw [qP (by omega) (by omega)]; omega
   rw [e0, zA (by omega) (by omega), e1, zA (by omega) (by omega)]
   simp only [cond_false, cond_true, Int.toNat_zero, Int.toNat_natCast]
   cases hf : empS (s.Rows.getD 0 default) with
   | true => simp
   | false => cases hg : empS (s.Rows.getD (s.Rows.length - 1) default) with
    | true => simp
    | false =>
     simp only [cond_false, Bool.false_eq_true, or_self, if_false]
     cases findE bad19 s.Rows <;> exact ⟨rfl, rfl⟩
def nilS : qK := ⟨0, []⟩
def LY (s : qK) : qK := if WP s = 0 then s else nilS
theorem qPX (s : qK) : XS s = some (LY s) := by
 unfold XS LY
 rw [(qDP s).1]
 simp only [Option.bind_some]
 by_cases h : WP s = 0
 ·rw [h]; rfl
 ·have : (WP s != 0) = true := by simpa using h
  rw [this, if_neg h]; rfl
def nrm (x : Span) : Span := bif empS x then ⟨0, 0⟩ else x
theorem qJb (x : Span) : empS (nrm x) = empS x := by
 unfold nrm
 cases h : empS x with
 | true => rfl
 | false => simpa using h
theorem qOV {x : Span} (h : empS x = false) : nrm x = x := by unfold nrm; rw [h]; rfl
theorem nrm_emp {x : Span} (h : empS x = true) : nrm x = ⟨0, 0⟩ := by unfold nrm; rw [h]; rfl
/-- The span of a section in a row. -/
def row (s : qK) (r : Int) : Span := if r < s.Low then ⟨0, 0⟩ else s.Rows.getD (r - s.Low).toNat default
/-- Neither end is empty. -/
structure Trim (s : qK) : Prop where
 nil : s.Rows = [] → s.Low = 0
 first : s.Rows ≠ [] → empS (s.Rows.getD 0 default) = false
 last : s.Rows ≠ [] → empS (s.Rows.getD (s.Rows.length - 1) default) = false
theorem qNz {α : Type} [Inhabited α] {l : List α} {i : Nat} (h : l.length ≤ i) : l.getD i default = default := by
 rw [List.getD_eq_getElem?_getD, List.getElem?_eq_none h]; rfl
theorem row_at {s : qK} {i : Nat} : row s (s.Low + i) = s.Rows.getD i default := by
 unfold row
 rw [if_neg (by omega)]
 congr 1
 omega
/-- A valid section. -/
structure VS (s : qK) : Prop extends Trim s where
 len : s.Rows.length ≤ 120
 low : -60 ≤ s.Low
 high : s.Low + s.Rows.length ≤ 60
 rng : ∀ x ∈ s.Rows, rngS x = true
 zero : ∀ x ∈ s.Rows, empS x = true → x = ⟨0, 0⟩
theorem qOH {x : Span} : bad9 x = none ↔ rngS x = true := by unfold bad9; cases rngS x <;> simp
theorem zeroS_iff {x : Span} : qDG x = true ↔ x = ⟨0, 0⟩ := by unfold qDG; cases x; simp
theorem qHA {x : Span} : bad19 x = none ↔ (empS x = true → x = ⟨0, 0⟩) := by
 unfold bad19
 cases h : empS x with
 | false => simp
 | true => cases hz : qDG x with
  | true => simp [zeroS_iff.1 hz]
  | false => simp; intro e; rw [zeroS_iff.2 e] at hz; cases hz
theorem qCo {ε α : Type} {bad : α → Option ε} {l : List α} {e : ε} (h : findE bad l = .inl e) : ∃ a ∈ l, bad a = some e := by
 induction l with
 | nil => cases h
 | cons a l ih =>
  unfold findE at h
  cases hb : bad a with
  | some e' => rw [hb] at h; cases h; exact ⟨a, by simp, hb⟩
  | none => rw [hb] at h; obtain ⟨x, hx, hx'⟩ := ih h; exact ⟨x, List.mem_cons_of_mem _ hx, hx'⟩
theorem chk10_zero (s : qK) : WP s = 0 ↔ VS s := by
 unfold WP
 by_cases h : 120 < s.Rows.length
 ·rw [if_pos h]; exact ⟨fun h => absurd h (by decide), fun hv => by have := hv.len; omega⟩
 rw [if_neg h]
 by_cases h1 : s.Low < -60 ∨ 60 - (s.Rows.length : Int) < s.Low
 ·rw [if_pos h1]; exact ⟨fun h => absurd h (by decide), fun hv => by have := hv.low; have := hv.high; omega⟩
 rw [if_neg h1]
 unfold qI1
 cases h9 : findE bad9 s.Rows with
 | inl e =>
  obtain ⟨a, ha, hb⟩ := qCo h9
  have e9 : e = 9 ∧ rngS a = false := by unfold bad9 at hb; cases hr : rngS a <;> rw [hr] at hb <;> simp at hb; exact ⟨hb.symm, rfl⟩
  simp only
  refine ⟨fun h => by omega, fun hv => ?_⟩
  have := hv.rng a ha
  rw [e9.2] at this; cases this
 | inr u =>
  have hr : ∀ x ∈ s.Rows, rngS x = true := fun x hx => qOH.1 (HV.1 h9 x hx)
  simp only
  by_cases h0 : s.Rows.length = 0
  ·have en : s.Rows = [] := List.length_eq_zero_iff.1 h0
   rw [if_pos h0]
   by_cases hw : s.Low = 0
   ·rw [if_pos hw]
    exact ⟨fun _ => ⟨⟨fun _ => hw, fun h => absurd en h, fun h => absurd en h⟩, by omega, by omega, by omega, hr, fun x hx => by rw [en] at hx; cases hx⟩, fun _ => rfl⟩
   ·rw [if_neg hw]
    exact ⟨fun h => absurd h (by decide), fun hv => absurd (hv.nil en) hw⟩
  ·rw [if_neg h0]
   have hne : s.Rows ≠ [] := fun e => h0 (by rw [e]; rfl)
   by_cases hf : empS (s.Rows.getD 0 default) = true ∨ empS (s.Rows.getD (s.Rows.length - 1) default) = true
   ·rw [if_pos hf]
    refine ⟨fun h => absurd h (by decide), fun hv => ?_⟩
    rcases hf with hf | hf
    ·rw [hv.first hne] at hf; cases hf
    ·rw [hv.last hne] at hf; cases hf
   ·rw [if_neg hf]
    have f1 : empS (s.Rows.getD 0 default) = false := by simpa using fun h => hf (.inl h)
    have f2 : empS (s.Rows.getD (s.Rows.length - 1) default) = false := by simpa using fun h => hf (.inr h)
    cases h19 : findE bad19 s.Rows with
    | inl e =>
     obtain ⟨a, ha, hb⟩ := qCo h19
     simp only
     have e19 : e = 19 := by unfold bad19 at hb; cases hr : (empS a && !qDG a) <;> rw [hr] at hb <;> simp at hb; exact hb.symm
     refine ⟨fun h => by omega, fun hv => ?_⟩
     have := qHA.2 (hv.zero a ha)
     rw [this] at hb; cases hb
    | inr u' =>
     exact ⟨fun _ => ⟨⟨fun e => absurd e hne, fun _ => f1, fun _ => f2⟩, by omega, by omega, by omega, hr, fun x hx => qHA.1 (HV.1 h19 x hx)⟩, fun _ => rfl⟩
theorem VS_nil : VS nilS := (chk10_zero nilS).1 rfl
theorem qMM (s : qK) : VS (LY s) := by
 unfold LY
 split
 ·rename_i h; exact (chk10_zero s).1 h
 ·exact VS_nil
theorem qMv {s : qK} (h : VS s) : LY s = s := by unfold LY; rw [if_pos ((chk10_zero s).2 h)]
theorem VS.row_rng {s : qK} (h : VS s) (r : Int) : rngS (row s r) = true := by
 unfold row
 split
 ·rfl
 ·by_cases hi : (r - s.Low).toNat < s.Rows.length
  ·exact h.rng _ (KF hi)
  ·rw [qNz (by omega)]; rfl
def mxS (x y : Span) : Span := ⟨imax x.A y.A, imin x.B y.B⟩
theorem qEA (x y : Span) : JR x y = some (nrm (mxS x y)) := by
 unfold JR nrm mxS empS
 simp only [ge_iff_le]
 cases decide (imin x.B y.B ≤ imax x.A y.A) <;> rfl
def lenS (x : Span) : Int := bif empS x then 0 else x.B - x.A
theorem qLr (n : Int) : IntKind.u64.wrap n = n % 18446744073709551616 := by
 unfold IntKind.wrap
 simp only [IntKind.bits, IntKind.signed, Bool.false_and]
 simp
theorem qCY {x : Span} (h : x.B - x.A ≤ 9223372036854775807) : YL x = some (lenS x) := by
 unfold YL qCH SZ lenS empS
 by_cases he : x.B ≤ x.A
 ·rw [decide_eq_true (show x.A ≥ x.B from he)]; rfl
 ·rw [decide_eq_false (show ¬ x.A ≥ x.B from he), qLr, qLr, qLr]
  simp only [cond_false, Option.bind_some]
  rw [show (x.B % 18446744073709551616 - x.A % 18446744073709551616) % 18446744073709551616 = x.B - x.A by omega]
  have : imin (x.B - x.A) 9223372036854775807 = x.B - x.A := by have := imin_or (x.B - x.A) 9223372036854775807; omega
  rw [this, qP (by omega) (by omega)]
theorem len_nrm (x : Span) : lenS (nrm x) = lenS x := by
 unfold lenS
 rw [qJb]
 cases h : empS x with
 | true => rfl
 | false => rw [qOV h]
theorem len_nn (x : Span) : 0 ≤ lenS x := by unfold lenS empS; by_cases h : x.B ≤ x.A <;> simp [h]; omega
/-- The length of the common part. -/
def ml (x y : Span) : Int := lenS (mxS x y)
theorem ml_b {x : Span} (y : Span) (h : rngS x = true) : 0 ≤ ml x y ∧ ml x y ≤ 1200 ∧ ml x y ≤ lenS x := by
 rw [AZ] at h
 have a1 := PM x.A y.A
 have a2 := imin_or x.B y.B
 unfold ml lenS empS mxS
 simp only
 by_cases c : imin x.B y.B ≤ imax x.A y.A
 ·rw [decide_eq_true c]
  by_cases c2 : x.B ≤ x.A
  ·rw [decide_eq_true c2]; simp
  ·rw [decide_eq_false c2]; simp; omega
 ·rw [decide_eq_false c, decide_eq_false (show ¬ x.B ≤ x.A by omega)]
  simp only [cond_false]
  omega
theorem mx_b {x y : Span} (h : rngS x = true) : (nrm (mxS x y)).B - (nrm (mxS x y)).A ≤ 1200 := by
 cases he : empS (mxS x y) with
 | true => rw [nrm_emp he]; decide
 | false =>
  rw [qOV he]
  rw [AZ] at h
  have a1 := PM x.A y.A
  have a2 := imin_or x.B y.B
  unfold mxS
  simp only
  omega
theorem ml_eq {x : Span} (y : Span) (h : rngS x = true) : YL (nrm (mxS x y)) = some (ml x y) := by
 have := mx_b (y := y) h
 rw [qCY (by omega), len_nrm]; rfl
/-- The heights of a row. -/
def hgt (r : Int) : Span := ⟨10 * r, 10 * (r + 1)⟩
theorem qFp {r : Int} (h1 : -60 ≤ r) (h2 : r < 60) : rngS (hgt r) = true := by rw [AZ]; unfold hgt; simp only; omega
theorem hgt_len (r : Int) : lenS (hgt r) = 10 := by unfold lenS empS hgt; simp only; rw [decide_eq_false (by omega)]; simp only [cond_false]; omega
theorem hgt_eq {r : Int} (h1 : -60 ≤ r) (h2 : r < 60) : KQ r (w64 (r + 1)) = some (hgt r) := by
 unfold KQ hgt
 rw [qP (n := r + 1) (by omega) (by omega), qP (by omega) (by omega), qP (by omega) (by omega)]
/-- The sum over all rows. -/
def sumR (f : Int → Int) : Int := sumN 120 (fun j => f ((j : Int) - 60))
theorem qL6 {s : qK} (h : VS s) (F : Int → Span → Int) (h0 : ∀ r, F r ⟨0, 0⟩ = 0) : sumN s.Rows.length (fun i => F (s.Low + i) (s.Rows.getD i default)) = sumR (fun r => F r (row s r)) := by
 have b1 := h.low
 have b2 := h.high
 have b3 := h.len
 unfold sumR
 have e : 120 = (s.Low + 60).toNat + (s.Rows.length + (120 - (s.Low + 60).toNat - s.Rows.length)) := by omega
 rw [e, qDt, qDt]
 have z1 : sumN (s.Low + 60).toNat (fun j => F ((j : Int) - 60) (row s ((j : Int) - 60))) = 0 := qE0 (fun i hi => by
  have : row s ((i : Int) - 60) = ⟨0, 0⟩ := by unfold row; rw [if_pos (by omega)]
  rw [this, h0])
 have z2 : sumN (120 - (s.Low + 60).toNat - s.Rows.length) (fun i => F ((((s.Low + 60).toNat + (s.Rows.length + i) : Nat) : Int) - 60) (row s ((((s.Low + 60).toNat + (s.Rows.length + i) : Nat) : Int) - 60))) = 0 := qE0 (fun i hi => by
  have : row s ((((s.Low + 60).toNat + (s.Rows.length + i) : Nat) : Int) - 60) = ⟨0, 0⟩ := by
   unfold row; rw [if_neg (by omega), qNz (by omega)]; rfl
  rw [this, h0])
 have z3 : sumN s.Rows.length (fun i => F ((((s.Low + 60).toNat + i : Nat) : Int) - 60) (row s ((((s.Low + 60).toNat + i : Nat) : Int) - 60))) = sumN s.Rows.length (fun i => F (s.Low + i) (s.Rows.getD i default)) := qDQ (fun i hi => by
  have : (((s.Low + 60).toNat + i : Nat) : Int) - 60 = s.Low + i := by omega
  rw [this, row_at])
 rw [z1, z3]
 rw [z2]
 omega
def qLl (s : qK) : Int := 10 * sumR (fun r => lenS (row s r))
def jO (s : qK) (x y : Span) : Int := sumR (fun r => ml (row s r) x * ml (hgt r) y)
theorem qON (s : qK) (R : Rect) : YB s R = some (jO (LY s) R.X R.Y) := by
 have h := qMM s
 unfold YB
 rw [qPX s]
 simp only [Option.bind_some]
 generalize LY s = t at *
 have b := h.len
 have b1 := h.low
 have b2 := h.high
 have pb : ∀ x, x < t.Rows.length → 0 ≤ ml (t.Rows.getD x default) R.X * ml (hgt (t.Low + x)) R.Y ∧ ml (t.Rows.getD x default) R.X * ml (hgt (t.Low + x)) R.Y ≤ 1440000 := fun x hx => by
  have m1 := ml_b R.X (h.rng _ (KF hx))
  have m2 := ml_b R.Y (qFp (r := t.Low + x) (by omega) (by omega))
  have := qEO (a := ml (t.Rows.getD x default) R.X) (b := ml (hgt (t.Low + x)) R.Y) (m := 1200) (n := 1200) (by omega) (by omega) (by omega) (by omega) (by omega) (by omega)
  exact ⟨Int.mul_nonneg m1.1 m2.1, by omega⟩
 have k1 := qCm t.Rows (fun n (a : Int) x => ZA R t n a x) (fun x => (x : Int)) (fun x a s => s + ml a R.X * ml (hgt (t.Low + x)) R.Y) (fun s => s) (fun x s => 0 ≤ s ∧ s ≤ 1440000 * (x : Int)) (by omega)
  (fun n x a hx hi => by
   have p := pb x hx
   refine ⟨?_, by omega⟩
   rw [ZA, decide_eq_true (show (x : Int) < _ by omega), zA (by omega) (by omega), zF (by omega), qP (n := t.Low + x) (by omega) (by omega), hgt_eq (r := t.Low + x) (by omega) (by omega)]
   simp only [cond_true, Int.toNat_natCast, Option.bind_some, qEA]
   rw [ml_eq R.X (h.rng _ (KF hx)), ml_eq R.Y (qFp (r := t.Low + x) (by omega) (by omega))]
   simp only [Option.bind_some]
   rw [qP (n := _ * _) (by omega) (by omega), qP (by omega) (by omega)])
  (fun n a _ => by rw [ZA]; simp) (i := 0) rfl 0 (by omega)
 rw [qEX (fun x a => ml a R.X * ml (hgt (t.Low + x)) R.Y)] at k1
 have e := qL6 h (fun r a => ml a R.X * ml (hgt r) R.Y) (fun r => by
  have : ml ⟨0, 0⟩ R.X = 0 := by have := ml_b (x := ⟨0, 0⟩) R.X rfl; have e : lenS ⟨0, 0⟩ = 0 := rfl; omega
  rw [this]; simp)
 simp only [Nat.zero_add, Int.zero_add] at k1
 rw [e] at k1
 rw [k1.1]
 rfl
theorem qML (x y : Span) : ml x y = if imin x.B y.B ≤ imax x.A y.A then 0 else imin x.B y.B - imax x.A y.A := by
 unfold ml lenS empS mxS
 simp only
 by_cases c : imin x.B y.B ≤ imax x.A y.A
 ·rw [decide_eq_true c, if_pos c]; rfl
 ·rw [decide_eq_false c, if_neg c]; rfl
theorem ml_nn (x y : Span) : 0 ≤ ml x y := len_nn _
theorem qNh (x : Span) : lenS x = if x.B ≤ x.A then 0 else x.B - x.A := by
 unfold lenS empS
 by_cases c : x.B ≤ x.A
 ·rw [decide_eq_true c, if_pos c]; rfl
 ·rw [decide_eq_false c, if_neg c]; rfl
theorem ml_le (x y : Span) : ml x y ≤ lenS x := by
 have a2 := imin_or x.B y.B
 have a3 := PM x.A y.A
 rw [qML, qNh]
 split <;> split <;> omega
theorem qMb (s : qK) : qLl s = sumR (fun r => 10 * lenS (row s r)) := (qPG 120 10 _).symm
theorem qIM {f g : Int → Int} (h : ∀ r, -60 ≤ r → r < 60 → f r ≤ g r) : sumR f ≤ sumR g := sumN_le (fun i hi => h _ (by omega) (by omega))
theorem qPd : sumR (fun _ => 0) = 0 := qE0 (fun _ _ => rfl)
theorem qJQ (s : qK) (x y : Span) : 0 ≤ jO s x y := by
 have := qIM (f := fun _ => 0) (g := fun r => ml (row s r) x * ml (hgt r) y) (fun r _ _ => Int.mul_nonneg (ml_nn _ _) (ml_nn _ _))
 rw [qPd] at this
 exact this
theorem qKa (s : qK) (x y : Span) : jO s x y ≤ qLl s := by
 rw [qMb]
 refine qIM (fun r _ _ => ?_)
 have h1 := ml_le (row s r) x
 have h2 := ml_le (hgt r) y
 rw [hgt_len] at h2
 have a := Int.mul_le_mul_of_nonneg_left h2 (ml_nn (row s r) x)
 have b := Int.mul_le_mul_of_nonneg_right h1 (show (0 : Int) ≤ 10 by decide)
 rw [Int.mul_comm 10]
 exact Int.le_trans a b
theorem area_b {s : qK} (h : VS s) : 0 ≤ qLl s ∧ qLl s ≤ 1440000 := by
 constructor
 ·exact Int.le_trans (qJQ s ⟨0, 0⟩ ⟨0, 0⟩) (qKa s _ _)
 ·rw [qMb]
  refine Int.le_trans (qIM (g := fun _ => 12000) (fun r _ _ => ?_)) (by unfold sumR; rw [qN2]; omega)
  have hr := AZ.1 (h.row_rng r)
  rw [qNh]
  split <;> omega
end Saw
end Go.SL
