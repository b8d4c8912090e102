/- Edge's plain mathematics, part 1: names, products, and both product checks. -/
import Derived.Test.YtjobdnkaonbgnaaGreatEMa1
set_option linter.unusedVariables false
set_option linter.unusedSimpArgs false
namespace Go.SL
namespace Saw
def smallc (c : Int) : Bool := decide (97 ≤ c) && decide (c ≤ 122)
def digitc (c : Int) : Bool := decide (48 ≤ c) && decide (c ≤ 57)
theorem qIx (c : Int) : XY c = some (smallc c) := by
 unfold XY TU smallc; cases decide (97 ≤ c) <;> rfl
theorem qO1 (c : Int) : UP c = some (digitc c) := by
 unfold UP TP digitc; cases decide (48 ≤ c) <;> rfl
theorem qMl (c : Int) : LX c = some (digitc c) := by
 unfold LX FE digitc
 show (bif decide (48 ≤ c) then _ else _) = _
 cases decide (48 ≤ c) <;> rfl
def badc (b : ByteArray) (i : Nat) : Option Bool := bif smallc (strAt b i) || (digitc (strAt b i) || strAt b i == 95) then none else some false
def isNm (b : ByteArray) : Bool :=
 if b.size < 1 ∨ 16 < b.size then false
 else bif smallc (strAt b 0) then (match findN (badc b) 1 (b.size - 1) with | .inl e => e | .inr _ => true) else false
theorem qPf (b : ByteArray) : DY b = some (isNm b) := by
 unfold DY isNm KP
 by_cases h1 : b.size < 1
 ·rw [decide_eq_true (show ((b.size : Nat) : Int) < 1 by omega), if_pos (.inl h1)]; rfl
 rw [decide_eq_false (show ¬ ((b.size : Nat) : Int) < 1 by omega)]
 by_cases h2 : 16 < b.size
 ·rw [decide_eq_true (show ((b.size : Nat) : Int) > 16 by omega), if_pos (.inr h2)]; rfl
 rw [decide_eq_false (show ¬ ((b.size : Nat) : Int) > 16 by omega), if_neg (by omega), qV (by omega) (by omega)]
 have L : wT b FUEL ((1 : Nat) : Int) = some (findN (badc b) 1 (b.size - 1)) := by
  refine ZE b.size (wT b) (badc b) 1 (by omega) (by omega) (fun n i hi hN => ?_) (fun n => ?_)
  ·rw [wT, decide_eq_true (by omega), qV (by omega) (by omega)]
   simp only [cond_true, Int.toNat_natCast, qIx, qO1, Option.bind_some, PC, zA (show i < 4611686018427387904 by omega), badc]
   cases smallc (strAt b i) <;> cases digitc (strAt b i) <;> cases h : strAt b i == 95 <;> simp [bne, h]
  ·rw [wT, decide_eq_false (by omega)]; rfl
 simp only [cond_false, cond_true, qIx, Option.bind_some, Int.toNat_zero]
 rw [show (1 : Int) = ((1 : Nat) : Int) from rfl, L]
 cases smallc (strAt b 0) with
 | false => rfl
 | true => cases findN (badc b) 1 (b.size - 1) <;> rfl
theorem qLd (b : ByteArray) : NH b = some (isNm b) := by
 unfold NH isNm DC
 by_cases h1 : b.size < 1
 ·rw [decide_eq_true (show ((b.size : Nat) : Int) < 1 by omega), if_pos (.inl h1)]; rfl
 rw [decide_eq_false (show ¬ ((b.size : Nat) : Int) < 1 by omega)]
 by_cases h2 : 16 < b.size
 ·rw [decide_eq_true (show ((b.size : Nat) : Int) > 16 by omega), if_pos (.inr h2)]; rfl
 rw [decide_eq_false (show ¬ ((b.size : Nat) : Int) > 16 by omega), if_neg (by omega)]
 have hs : ∀ c : Int, decide (c ≥ 97) = decide (97 ≤ c) := fun c => rfl
 have L : wS b FUEL ((0 : Nat) : Int) = some (findN (fun i => bif smallc (strAt b i) then none else if i = 0 then some false else badc b i) 0 (b.size - 0)) := by
  refine ZE b.size (wS b) _ 0 (by omega) (by omega) (fun n i hi hN => ?_) (fun n => ?_)
  ·rw [wS, decide_eq_true (by omega), qV (by omega) (by omega)]
   simp only [cond_true, Int.toNat_natCast, qMl, Option.bind_some, GR, JN, zA (show i < 4611686018427387904 by omega), badc, qV (show (0 : Int) ≤ (i : Int) by omega) (show (i : Int) < (b.size : Int) by omega)]
   by_cases h0 : i = 0
   ·subst h0
    simp only [smallc, hs]
    cases decide (97 ≤ strAt b 0) <;> cases decide (strAt b 0 ≤ 122) <;> rfl
   ·have e : ((i : Int) == 0) = false := by rw [beq_eq_false_iff_ne]; omega
    simp only [smallc, hs, e, if_neg h0]
    cases decide (97 ≤ strAt b i) <;> cases decide (strAt b i ≤ 122) <;> cases h : strAt b i == 95 <;> cases digitc (strAt b i) <;> simp [bne, h]
  ·rw [wS, decide_eq_false (by omega)]; rfl
 simp only [cond_false]
 rw [show (0 : Int) = ((0 : Nat) : Int) from rfl, L]
 obtain ⟨m, hm⟩ : ∃ m, b.size = m + 1 := ⟨b.size - 1, by omega⟩
 rw [hm, Nat.sub_zero, findN]
 simp only [if_true]
 cases hs0 : smallc (strAt b 0) with
 | false => rfl
 | true =>
  simp only [cond_true]
  rw [qGh (b2 := badc b) (fun i h1 h2 => by
   have : ¬ i = 0 := by omega
   rw [if_neg this]
   unfold badc
   cases smallc (strAt b i) <;> rfl)]
  rw [show m + 1 - 1 = m by omega]
  show ((some (findN (badc b) 1 m)).bind _) = _
  cases findN (badc b) 1 m <;> rfl
/-! ### Green -/
def okSz (n : Int) : Bool := decide (n ≥ 1) && decide (n ≤ 600)
theorem qP2 (n : Int) : YV n = some (okSz n) := by
 unfold YV PR okSz; cases decide (n ≥ 1) <;> rfl
def qCV (n a : Int) : Int := Int.tdiv (n * (1000 + a) + 999) 1000
theorem qA0 {n a : Int} (h1 : 1 ≤ n) (h2 : n ≤ 600) (h3 : 0 ≤ a) (h4 : a ≤ 200) : w64 (Int.tdiv (w64 (w64 (n * w64 (1000 + a)) + 999)) 1000) = qCV n a ∧ n ≤ qCV n a ∧ qCV n a ≤ 721 := by
 have h5 : w64 (1000 + a) = 1000 + a := qL (by omega) (by omega)
 have hb := Int.mul_le_mul h2 (show 1000 + a ≤ 1200 by omega) (by omega) (by omega)
 have ha := Int.mul_le_mul (Int.le_refl n) (show 1000 ≤ 1000 + a by omega) (by omega) (by omega)
 have h6 : w64 (n * (1000 + a)) = n * (1000 + a) := qL (by omega) (by omega)
 have h7 : w64 (n * (1000 + a) + 999) = n * (1000 + a) + 999 := qL (by omega) (by omega)
 rw [h5, h6, h7]
 have h8 : Int.tdiv (n * (1000 + a) + 999) 1000 = (n * (1000 + a) + 999) / 1000 := Int.tdiv_eq_ediv_of_nonneg (by omega)
 unfold qCV
 rw [h8]
 refine ⟨qL (by omega) (by omega), by omega, by omega⟩
def okG (p : Product) : Bool := okSz p.Thick && (okSz p.Width && (decide (0 ≤ p.Allow) && decide (p.Allow ≤ 200)))
theorem qI0 {p : Product} : okG p = true ↔ (1 ≤ p.Thick ∧ p.Thick ≤ 600) ∧ (1 ≤ p.Width ∧ p.Width ≤ 600) ∧ 0 ≤ p.Allow ∧ p.Allow ≤ 200 := by
 unfold okG okSz; simp
def zY (p : Product) : Int × Int := bif okG p then (qCV p.Thick p.Allow, qCV p.Width p.Allow) else (0, 0)
theorem qQC (p : Product) : 0 ≤ (zY p).1 ∧ (zY p).1 ≤ 721 ∧ 0 ≤ (zY p).2 ∧ (zY p).2 ≤ 721 := by
 unfold zY
 cases h : okG p with
 | false => simp only [cond_false]; omega
 | true =>
  obtain ⟨⟨a, b⟩, ⟨c, d⟩, e, f⟩ := qI0.1 h
  have g1 := qA0 a b e f
  have g2 := qA0 c d e f
  simp only [cond_true]
  omega
theorem IK (p : Product) : JW p = some (zY p) ∧ YH p = some (zY p) := by
 unfold JW YH IR YS WJ TD BS zY
 simp only [qP2, Option.bind_some]
 by_cases h : okG p = true
 ·obtain ⟨⟨a, b⟩, ⟨c, d⟩, e, f⟩ := qI0.1 h
  have g1 := qA0 a b e f
  have g2 := qA0 c d e f
  rw [h]
  unfold okSz
  rw [decide_eq_true (show p.Thick ≥ 1 from a), decide_eq_true b, decide_eq_true (show p.Width ≥ 1 from c), decide_eq_true d, decide_eq_false (show ¬ p.Allow < 0 by omega), decide_eq_false (show ¬ p.Allow > 200 by omega)]
  simp only [Bool.and_self, Bool.not_true, cond_true, cond_false, Option.bind_some]
  rw [g1.1, g2.1]
  exact ⟨rfl, rfl⟩
 ·rw [Bool.not_eq_true] at h
  have h' := h
  unfold okG at h'
  rw [h]
  have e1 : decide (p.Allow < 0) = !decide (0 ≤ p.Allow) := by by_cases q : p.Allow < 0 <;> simp [q] <;> omega
  have e2 : decide (p.Allow > 200) = !decide (p.Allow ≤ 200) := by by_cases q : p.Allow > 200 <;> simp [q] <;> omega
  rw [e1, e2]
  unfold okSz at h' ⊢
  revert h'
  cases decide (p.Thick ≥ 1) <;> cases decide (p.Thick ≤ 600) <;> cases decide (p.Width ≥ 1) <;> cases decide (p.Width ≤ 600) <;> cases decide (0 ≤ p.Allow) <;> cases decide (p.Allow ≤ 200) <;> simp
/-! ### The checks -/
def badLen (p : Product) (i : Nat) : Option Int :=
 if p.Lengths.getD i default < 100 ∨ 20000 < p.Lengths.getD i default then some 9
 else if 0 < i ∧ p.Lengths.getD i default ≤ p.Lengths.getD (i - 1) default then some 11 else none
def badPr (n : Int) : Option Int := if n < 0 ∨ 1000000 < n then some 9 else none
def qBP (p : Product) : Int :=
 if p.Lengths.length = 0 then 3 else if 8 < p.Lengths.length then 4 else if p.Prices.length ≠ p.Lengths.length then 19
 else match findN (badLen p) 0 p.Lengths.length with
  | .inl e => e
  | .inr _ => match findE badPr p.Prices with
   | .inl e => e
   | .inr _ => 0
theorem qOm (p : Product) (h : p.Lengths.length ≤ 8) : zJ p FUEL 0 = some (findN (badLen p) 0 p.Lengths.length) ∧ zQ p FUEL 0 = some (findN (badLen p) 0 p.Lengths.length) := by
 refine ⟨ZE p.Lengths.length (zJ p) (badLen p) 0 (by omega) (by omega) (fun n i hi hN => ?_) (fun n => ?_), ZE p.Lengths.length (zQ p) (badLen p) 0 (by omega) (by omega) (fun n i hi hN => ?_) (fun n => ?_)⟩
 ·rw [zJ, decide_eq_true (by omega), qV (by omega) (by omega)]
  simp only [cond_true, Int.toNat_natCast, ZS, ZU, zA (show i < 4611686018427387904 by omega), badLen]
  by_cases h1 : p.Lengths.getD i default < 100
  ·rw [decide_eq_true h1, if_pos (.inl h1)]; rfl
  rw [decide_eq_false h1]
  by_cases h2 : 20000 < p.Lengths.getD i default
  ·rw [decide_eq_true (show p.Lengths.getD i default > 20000 from h2), if_pos (.inr h2)]; rfl
  rw [decide_eq_false (show ¬ p.Lengths.getD i default > 20000 from h2), if_neg (by omega)]
  simp only [cond_false]
  by_cases h3 : 0 < i
  ·rw [decide_eq_true (show (i : Int) > 0 by omega), show w64 ((i : Int) - 1) = ((i - 1 : Nat) : Int) by rw [qL (by omega) (by omega)]; omega, qV (by omega) (by omega)]
   simp only [cond_true, Int.toNat_natCast]
   by_cases h4 : p.Lengths.getD i default ≤ p.Lengths.getD (i - 1) default
   ·rw [decide_eq_true h4, if_pos ⟨h3, h4⟩]; rfl
   ·rw [decide_eq_false h4, if_neg (fun q => h4 q.2)]; rfl
  ·rw [decide_eq_false (show ¬ (i : Int) > 0 by omega), if_neg (fun q => h3 q.1)]; rfl
 ·rw [zJ, decide_eq_false (by omega)]; rfl
 ·rw [zQ, decide_eq_true (by omega), qV (by omega) (by omega)]
  simp only [cond_true, Int.toNat_natCast, JH, JL, zA (show i < 4611686018427387904 by omega), badLen]
  by_cases h1 : p.Lengths.getD i default < 100
  ·rw [decide_eq_true h1, if_pos (.inl h1)]; rfl
  rw [decide_eq_false h1]
  by_cases h2 : 20000 < p.Lengths.getD i default
  ·rw [decide_eq_true (show p.Lengths.getD i default > 20000 from h2), if_pos (.inr h2)]; rfl
  rw [decide_eq_false (show ¬ p.Lengths.getD i default > 20000 from h2), if_neg (by omega)]
  simp only [cond_false]
  by_cases h3 : 0 < i
  ·rw [decide_eq_true (show (i : Int) > 0 by omega), show w64 ((i : Int) - 1) = ((i - 1 : Nat) : Int) by rw [qL (by omega) (by omega)]; omega, qV (by omega) (by omega), qV (by omega) (by omega)]
   simp only [cond_true, Int.toNat_natCast]
   by_cases h4 : p.Lengths.getD i default ≤ p.Lengths.getD (i - 1) default
   ·rw [decide_eq_true h4, if_pos ⟨h3, h4⟩]; rfl
   ·rw [decide_eq_false h4, if_neg (fun q => h4 q.2)]; rfl
  ·rw [decide_eq_false (show ¬ (i : Int) > 0 by omega), if_neg (fun q => h3 q.1)]; rfl
 ·rw [zQ, decide_eq_false (by omega)]; rfl
theorem qPQ (p : Product) (h : p.Prices.length ≤ 8) : zR p FUEL 0 = some (findE badPr p.Prices) ∧ zW p FUEL 0 = some (findE badPr p.Prices) := by
 refine ⟨TL p.Prices (zR p) badPr (by omega) (fun n i hN => ?_) (fun n => ?_), TL p.Prices (zW p) badPr (by omega) (fun n i hN => ?_) (fun n => ?_)⟩
 ·rw [zR, decide_eq_true (by omega), qV (by omega) (by omega)]
  simp only [cond_true, Int.toNat_natCast, ZT, zA (show i < 4611686018427387904 by omega), badPr]
  by_cases h1 : p.Prices.getD i default < 0
  ·rw [decide_eq_true h1, if_pos (.inl h1)]; rfl
  rw [decide_eq_false h1]
  by_cases h2 : 1000000 < p.Prices.getD i default
  ·rw [decide_eq_true (show p.Prices.getD i default > 1000000 from h2), if_pos (.inr h2)]; rfl
  rw [decide_eq_false (show ¬ p.Prices.getD i default > 1000000 from h2), if_neg (by omega)]; rfl
 ·rw [zR, decide_eq_false (by omega)]; rfl
 ·rw [zW, decide_eq_true (by omega), qV (by omega) (by omega)]
  simp only [cond_true, Int.toNat_natCast, JP, zA (show i < 4611686018427387904 by omega), badPr]
  by_cases h1 : p.Prices.getD i default < 0
  ·rw [decide_eq_true h1, if_pos (.inl h1)]; rfl
  rw [decide_eq_false h1]
  by_cases h2 : 1000000 < p.Prices.getD i default
  ·rw [decide_eq_true (show p.Prices.getD i default > 1000000 from h2), if_pos (.inr h2)]; rfl
  rw [decide_eq_false (show ¬ p.Prices.getD i default > 1000000 from h2), if_neg (by omega)]; rfl
 ·rw [zW, decide_eq_false (by omega)]; rfl
theorem qPC (p : Product) : WY p = some (qBP p) := by
 unfold WY qBP
 by_cases h0 : p.Lengths.length = 0
 ·rw [if_pos h0, h0]; rfl
 rw [if_neg h0, show (((p.Lengths.length : Nat) : Int) == 0) = false by rw [beq_eq_false_iff_ne]; omega]
 by_cases h1 : 8 < p.Lengths.length
 ·rw [if_pos h1, decide_eq_true (by omega)]; rfl
 rw [if_neg h1, decide_eq_false (by omega)]
 by_cases h2 : p.Prices.length ≠ p.Lengths.length
 ·rw [if_pos h2, show (((p.Prices.length : Nat) : Int) != ((p.Lengths.length : Nat) : Int)) = true by rw [bne_iff_ne]; omega]; rfl
 rw [if_neg h2, show (((p.Prices.length : Nat) : Int) != ((p.Lengths.length : Nat) : Int)) = false by rw [bne_eq_false_iff_eq]; omega]
 simp only [cond_false]
 rw [(qOm p (by omega)).2, (qPQ p (by omega)).2]
 cases findN (badLen p) 0 p.Lengths.length with
 | inl e => rfl
 | inr u => cases findE badPr p.Prices <;> rfl
def RC (p : Product) : Int :=
 if p.Thick < 5 ∨ 300 < p.Thick ∨ p.Width < p.Thick ∨ 600 < p.Width ∨ p.Allow < 0 ∨ 200 < p.Allow ∨ p.Wane < 0 ∨ 1000 < p.Wane then 9
 else if 600 < (zY p).2 then 9 else qBP p
theorem qPz (p : Product) : ZF p = some (RC p) := by
 unfold ZF wW RC
 by_cases h1 : p.Thick < 5
 ·rw [if_pos (.inl h1), decide_eq_true h1]; rfl
 rw [decide_eq_false h1]
 by_cases h2 : p.Thick > 300
 ·rw [if_pos (by omega), decide_eq_true h2]; rfl
 rw [decide_eq_false h2]
 by_cases h3 : p.Width < p.Thick
 ·rw [if_pos (by omega), decide_eq_true h3]; rfl
 rw [decide_eq_false h3]
 by_cases h4 : p.Width > 600
 ·rw [if_pos (by omega), decide_eq_true h4]; rfl
 rw [decide_eq_false h4]
 simp only [cond_false]
 unfold wX
 by_cases h5 : p.Allow < 0
 ·rw [if_pos (by omega), decide_eq_true h5]; rfl
 rw [decide_eq_false h5]
 by_cases h6 : p.Allow > 200
 ·rw [if_pos (by omega), decide_eq_true h6]; rfl
 rw [decide_eq_false h6]
 by_cases h7 : p.Wane < 0
 ·rw [if_pos (by omega), decide_eq_true h7]; rfl
 rw [decide_eq_false h7]
 by_cases h8 : p.Wane > 1000
 ·rw [if_pos (by omega), decide_eq_true h8]; rfl
 rw [decide_eq_false h8, if_neg (by omega)]
 simp only [cond_false, (IK p).1, Option.bind_some]
 by_cases h9 : 600 < (zY p).2
 ·rw [if_pos h9, decide_eq_true (show (zY p).2 > 600 from h9)]; rfl
 rw [if_neg h9, decide_eq_false (show ¬ (zY p).2 > 600 from h9)]
 unfold qBP
 by_cases h0 : p.Lengths.length = 0
 ·rw [if_pos h0, h0]; rfl
 rw [if_neg h0, show (((p.Lengths.length : Nat) : Int) == 0) = false by rw [beq_eq_false_iff_ne]; omega]
 by_cases h1 : 8 < p.Lengths.length
 ·rw [if_pos h1, decide_eq_true (by omega)]; rfl
 rw [if_neg h1, decide_eq_false (by omega)]
 by_cases h2 : p.Prices.length ≠ p.Lengths.length
 ·rw [if_pos h2, show (((p.Prices.length : Nat) : Int) != ((p.Lengths.length : Nat) : Int)) = true by rw [bne_iff_ne]; omega]; rfl
 rw [if_neg h2, show (((p.Prices.length : Nat) : Int) != ((p.Lengths.length : Nat) : Int)) = false by rw [bne_eq_false_iff_eq]; omega]
 simp only [cond_false]
 rw [(qOm p (by omega)).1, (qPQ p (by omega)).1]
 cases findN (badLen p) 0 p.Lengths.length with
 | inl e => rfl
 | inr u => cases findE badPr p.Prices <;> rfl
def twin (l : List Product) (x : Nat) (i : Nat) : Option Int := bif strEq ((l.getD i default).Name) ((l.getD x default).Name) then some 7 else none
def badP (l : List Product) (x : Nat) : Option Int :=
 bif isNm (l.getD x default).Name then
  match findN (twin l x) 0 x with
  | .inl e => some e
  | .inr _ => bif RC (l.getD x default) != 0 then some (RC (l.getD x default)) else none
 else some 6
def yV (l : List Product) : Int := if 16 < l.length then 4 else match findN (badP l) 0 l.length with | .inl e => e | .inr _ => 0
def fnd (l : List Product) (s : ByteArray) : Nat → Option (Int × Bool) := fun i => bif strEq ((l.getD i default).Name) s then some ((i : Int), true) else none
theorem Find_eq (l : List Product) (s : ByteArray) (h : l.length ≤ 1000000) : ND l s = some (match findN (fnd l s) 0 l.length with | .inl e => e | .inr _ => (0, false)) := by
 unfold ND
 have L : QQ l s FUEL ((0 : Nat) : Int) = some (findN (fnd l s) 0 l.length) := by
  refine ZE l.length (QQ l s) _ 0 (by omega) (by omega) (fun n i hi hN => ?_) (fun n => ?_)
  ·rw [QQ, decide_eq_true (by omega), qV (by omega) (by omega)]
   simp only [cond_true, Int.toNat_natCast, zA (show i < 4611686018427387904 by omega), fnd]
   cases strEq (l.getD i default).Name s <;> rfl
  ·rw [QQ, decide_eq_false (by omega)]; rfl
 rw [show (0 : Int) = ((0 : Nat) : Int) from rfl, L]
 simp only [Option.bind_some]
 cases findN (fnd l s) 0 l.length <;> rfl
theorem qKQ {α : Type} [Inhabited α] (l : List α) {i x : Nat} (h : i < x) : (l.take x).getD i default = l.getD i default := by
 simp [List.getD_eq_getElem?_getD, List.getElem?_take, h]
theorem qPR (l : List Product) {x : Nat} (hx : x ≤ l.length) : (match findN (fnd (l.take x) (l.getD x default).Name) 0 (l.take x).length with | .inl e => e | .inr _ => ((0 : Int), false)).2 = (match findN (twin l x) 0 x with | .inl _ => true | .inr _ => false) ∧ ∀ e, findN (twin l x) 0 x = .inl e → e = 7 := by
 have hl : (l.take x).length = x := by rw [List.length_take]; omega
 rw [hl]
 constructor
 ·cases h1 : findN (twin l x) 0 x with
  | inr u =>
   have h2 : findN (fnd (l.take x) (l.getD x default).Name) 0 x = .inr () := by
    rw [UC]
    intro i a b
    have := UC.1 h1 i a b
    unfold twin at this
    unfold fnd
    rw [qKQ l (by omega)]
    cases hq : strEq (l.getD i default).Name (l.getD x default).Name with
    | true => rw [hq] at this; cases this
    | false => rfl
   rw [h2]
  | inl e =>
   obtain ⟨i, a, b, c, d⟩ := WT h1
   cases h2 : findN (fnd (l.take x) (l.getD x default).Name) 0 x with
   | inr u =>
    have := UC.1 h2 i a b
    unfold fnd at this
    rw [qKQ l (by omega)] at this
    unfold twin at c
    cases hq : strEq (l.getD i default).Name (l.getD x default).Name with
    | true => rw [hq] at this; cases this
    | false => rw [hq] at c; cases c
   | inl e' =>
    obtain ⟨j, a', b', c', d'⟩ := WT h2
    unfold fnd at c'
    cases hq : strEq ((l.take x).getD j default).Name (l.getD x default).Name with
    | true => rw [hq] at c'; cases c'; rfl
    | false => rw [hq] at c'; cases c'
 ·intro e h
  obtain ⟨i, a, b, c, d⟩ := WT h
  unfold twin at c
  cases hq : strEq (l.getD i default).Name (l.getD x default).Name with
  | true => rw [hq] at c; cases c; rfl
  | false => rw [hq] at c; cases c
theorem qMa (l : List Product) : KL l = some (yV l) := by
 unfold KL yV
 by_cases h : 16 < l.length
 ·rw [if_pos h, decide_eq_true (by omega)]; rfl
 rw [if_neg h, decide_eq_false (by omega)]
 have L : QE l FUEL ((0 : Nat) : Int) = some (findN (badP l) 0 l.length) := by
  refine ZE l.length (QE l) _ 0 (by omega) (by omega) (fun n i hi hN => ?_) (fun n => ?_)
  ·rw [QE, decide_eq_true (by omega), qV (by omega) (by omega)]
   have hs : slOk 0 (i : Int) l.length = true := by unfold slOk; exact decide_eq_true (by omega)
   simp only [cond_true, Int.toNat_natCast, zA (show i < 4611686018427387904 by omega), qPf, Option.bind_some, hs, Find_eq (l.take i) (l.getD i default).Name (by rw [List.length_take]; omega), qPz, badP]
   cases isNm (l.getD i default).Name with
   | false => rfl
   | true =>
    obtain ⟨f1, f2⟩ := qPR l (x := i) (by omega)
    simp only [Bool.not_true, cond_false, f1]
    cases hf : findN (twin l i) 0 i with
    | inl e => rw [f2 e hf]; rfl
    | inr u =>
     simp only [cond_false, cond_true]
     by_cases hc : RC (l.getD i default) = 0
     ·rw [hc]; rfl
     ·rw [show (RC (l.getD i default) != 0) = true by rw [bne_iff_ne]; exact hc]; rfl
  ·rw [QE, decide_eq_false (by omega)]; rfl
 rw [show (0 : Int) = ((0 : Nat) : Int) from rfl, L]
 simp only [cond_false, Option.bind_some]
 cases findN (badP l) 0 l.length <;> rfl
theorem qES (l : List Product) : VU l = some (yV l) := by
 unfold VU yV
 by_cases h : 16 < l.length
 ·rw [if_pos h, decide_eq_true (by omega)]; rfl
 rw [if_neg h, decide_eq_false (by omega)]
 have L : zT l FUEL ((0 : Nat) : Int) = some (findN (badP l) 0 l.length) := by
  refine ZE l.length (zT l) _ 0 (by omega) (by omega) (fun n i hi hN => ?_) (fun n => ?_)
  ·have L2 : WE l (i : Int) FUEL ((0 : Nat) : Int) = some (findN (twin l i) 0 i) := by
    refine ZE i (WE l (i : Int)) _ 0 (by omega) (by omega) (fun n j hi hN => ?_) (fun n => ?_)
    ·rw [WE, decide_eq_true (by omega), qV (by omega) (by omega)]
     simp only [cond_true, Int.toNat_natCast, zA (show j < 4611686018427387904 by omega), twin]
     cases strEq (l.getD j default).Name (l.getD i default).Name <;> rfl
    ·rw [WE, decide_eq_false (by omega)]; rfl
   rw [show ((0 : Nat) : Int) = 0 from rfl] at L2
   rw [zT, decide_eq_true (by omega), qV (by omega) (by omega)]
   simp only [cond_true, Int.toNat_natCast, zA (show i < 4611686018427387904 by omega), qLd, Option.bind_some, L2, qPC, badP, jL, (IK _).2]
   cases isNm (l.getD i default).Name with
   | false => rfl
   | true =>
    simp only [Bool.not_true, cond_false, cond_true]
    cases hf : findN (twin l i) 0 i with
    | inl e => rfl
    | inr u =>
     simp only [Sum.elim_inr]
     unfold RC
     by_cases h1 : (l.getD i default).Thick < 5
     ·rw [if_pos (.inl h1), decide_eq_true h1]; rfl
     rw [decide_eq_false h1]
     by_cases h2 : (l.getD i default).Thick > 300
     ·rw [if_pos (show _ ∨ _ by omega), decide_eq_true h2]; rfl
     rw [decide_eq_false h2]
     by_cases h3 : (l.getD i default).Width < (l.getD i default).Thick
     ·rw [if_pos (show _ ∨ _ by omega), decide_eq_true h3]; rfl
     rw [decide_eq_false h3]
     by_cases h4 : (l.getD i default).Width > 600
     ·rw [if_pos (show _ ∨ _ by omega), decide_eq_true h4]; rfl
     rw [decide_eq_false h4]
     by_cases h5 : (l.getD i default).Allow < 0
     ·rw [if_pos (show _ ∨ _ by omega), decide_eq_true h5]; rfl
     rw [decide_eq_false h5]
     by_cases h6 : (l.getD i default).Allow > 200
     ·rw [if_pos (show _ ∨ _ by omega), decide_eq_true h6]; rfl
     rw [decide_eq_false h6]
     by_cases h7 : (l.getD i default).Wane < 0
     ·rw [if_pos (show _ ∨ _ by omega), decide_eq_true h7]; rfl
     rw [decide_eq_false h7]
     by_cases h8 : (l.getD i default).Wane > 1000
     ·rw [if_pos (show _ ∨ _ by omega), decide_eq_true h8]; rfl
     rw [decide_eq_false h8, if_neg (show ¬ ((l.getD i default).Thick < 5 ∨ 300 < (l.getD i default).Thick ∨ (l.getD i default).Width < (l.getD i default).Thick ∨ 600 < (l.getD i default).Width ∨ (l.getD i default).Allow < 0 ∨ 200 < (l.getD i default).Allow ∨ (l.getD i default).Wane < 0 ∨ 1000 < (l.getD i default).Wane) by omega)]
     simp only [cond_false]
     by_cases h9 : 600 < (zY (l.getD i default)).2
     ·rw [if_pos h9, decide_eq_true (show (zY (l.getD i default)).2 > 600 from h9)]; rfl
     rw [if_neg h9, decide_eq_false (show ¬ (zY (l.getD i default)).2 > 600 from h9)]
     by_cases hc : qBP (l.getD i default) = 0
     ·rw [hc]; rfl
     ·rw [show (qBP (l.getD i default) != 0) = true by rw [bne_iff_ne]; exact hc]; rfl
  ·rw [zT, decide_eq_false (by omega)]; rfl
 rw [show (0 : Int) = ((0 : Nat) : Int) from rfl, L]
 simp only [cond_false, Option.bind_some]
 cases findN (badP l) 0 l.length <;> rfl
theorem YD {n b : Nat} (h1 : n ≤ 1000000) (h2 : b ≤ 1000000) : room n b = true := room_t (by
 have := Nat.mul_le_mul h1 h2; omega)
theorem qPv {l : List Product} (h : ¬ yV l ≠ 0) : l.length ≤ 16 := by
 unfold yV at h
 by_cases q : 16 < l.length
 ·rw [if_pos q] at h; exact absurd (by decide) h
 ·omega
def empS (s : Span) : Bool := decide (s.B ≤ s.A)
def rngS (s : Span) : Bool := (decide (-600 ≤ s.A) && decide (s.A ≤ 600)) && (decide (-600 ≤ s.B) && decide (s.B ≤ 600))
def qDL (s : Span) : Bool := (s.A == 0) && (s.B == 0)
theorem HA {s : Span} : rngS s = true ↔ (-600 ≤ s.A ∧ s.A ≤ 600) ∧ (-600 ≤ s.B ∧ s.B ≤ 600) := by unfold rngS; simp
theorem OA (s : Span) : JK s = some (empS s) := rfl
theorem qDs (s : Span) : YK s = some (empS s) := rfl
theorem qEK (s : Span) : KU s = some (rngS s) := by
 have e : rngS s = (decide (imin s.A s.B ≥ -600) && decide (imax s.A s.B ≤ 600)) := by
  rw [Bool.eq_iff_iff, HA, Bool.and_eq_true, decide_eq_true_eq, decide_eq_true_eq, ge_iff_le, le_imin, qQp]
  omega
 unfold KU PG
 rw [e]
 cases decide (imin s.A s.B ≥ -600) <;> rfl
theorem qHG (n : Int) : TB n = some (!(decide (-600 ≤ n) && decide (n ≤ 600))) := by
 unfold TB DO
 by_cases h1 : n < -600
 ·rw [decide_eq_true h1, decide_eq_false (show ¬ -600 ≤ n by omega)]; rfl
 ·rw [decide_eq_false h1, decide_eq_true (show -600 ≤ n by omega)]
  by_cases h2 : n > 600
  ·rw [decide_eq_true h2, decide_eq_false (show ¬ n ≤ 600 by omega)]; rfl
  ·rw [decide_eq_false h2, decide_eq_true (show n ≤ 600 by omega)]; rfl
def bad9 (s : Span) : Option Int := bif rngS s then none else some 9
def bad19 (s : Span) : Option Int := bif empS s && !qDL s then some 19 else none
def qI3 (s : qK) : Int :=
 match findE bad9 s.Rows with
 | .inl e => e
 | .inr _ =>
  if s.Rows.length = 0 then (if s.Low = 0 then 0 else 19)
  else if empS (s.Rows.getD 0 default) = true ∨ empS (s.Rows.getD (s.Rows.length - 1) default) = true then 19
  else match findE bad19 s.Rows with
   | .inl e => e
   | .inr _ => 0
def JE (s : qK) : Int := if 120 < s.Rows.length then 4 else if s.Low < -60 ∨ 60 - (s.Rows.length : Int) < s.Low then 9 else qI3 s
theorem chk_L (s : qK) (hl : s.Rows.length ≤ 120) : QD s FUEL 0 = some (findE bad9 s.Rows) ∧ jC s FUEL 0 = some (findE bad19 s.Rows) ∧ yF s FUEL 0 = some (findE bad9 s.Rows) ∧ yI s FUEL 0 = some (findE bad19 s.Rows) := by
 have e1 : ∀ (l : List Span) (x : Nat), (l.length : Nat) < 1000 → x < l.length → decide ((x : Int) < ((l.length : Nat) : Int)) = true ∧ inb (x : Int) l.length = true ∧ w64 ((x : Int) + 1) = ((x + 1 : Nat) : Int) := fun l x h hx => ⟨decide_eq_true (by omega), qV (by omega) (by omega), zA (by omega)⟩
 refine ⟨TL s.Rows (QD s) bad9 (by omega) (fun n x hx => ?_) (fun n => ?_), TL s.Rows (jC s) bad19 (by omega) (fun n x hx => ?_) (fun n => ?_), TL s.Rows (yF s) bad9 (by omega) (fun n x hx => ?_) (fun n => ?_), TL s.Rows (yI s) bad19 (by omega) (fun n x hx => ?_) (fun n => ?_)⟩
 ·obtain ⟨a1, a2, a3⟩ := e1 s.Rows x (by omega) hx
  rw [QD]
  simp only [a1, a2, a3, cond_true, Int.toNat_natCast, qEK, Option.bind_some, bad9]
  cases rngS (s.Rows.getD x default) <;> rfl
 ·unfold QD; simp
 ·obtain ⟨a1, a2, a3⟩ := e1 s.Rows x (by omega) hx
  rw [jC]
  simp only [UB, a1, a2, a3, cond_true, Int.toNat_natCast, OA, Option.bind_some, bad19, qDL, Bool.and_true]
  cases empS (s.Rows.getD x default) <;> cases ((s.Rows.getD x default).A == 0 && (s.Rows.getD x default).B == 0) <;> rfl
 ·unfold jC; simp
 ·obtain ⟨a1, a2, a3⟩ := e1 s.Rows x (by omega) hx
  rw [yF]
  simp only [NW, a1, a2, a3, cond_true, Int.toNat_natCast, qHG, Option.bind_some, bad9, rngS]
  cases (decide (-600 ≤ (s.Rows.getD x default).A) && decide ((s.Rows.getD x default).A ≤ 600)) <;> cases (decide (-600 ≤ (s.Rows.getD x default).B) && decide ((s.Rows.getD x default).B ≤ 600)) <;> rfl
 ·unfold yF; simp
 ·obtain ⟨a1, a2, a3⟩ := e1 s.Rows x (by omega) hx
  rw [yI]
  simp only [NU, a1, a2, a3, cond_true, Int.toNat_natCast, qDs, Option.bind_some, bad19, qDL, Bool.and_true]
  cases empS (s.Rows.getD x default) <;> cases ((s.Rows.getD x default).A == 0 && (s.Rows.getD x default).B == 0) <;> rfl
 ·unfold yI; simp
theorem qD7 (s : qK) : KC s = some (JE s) ∧ GE s = some (JE s) := by
 unfold KC GE JE
 by_cases h : 120 < s.Rows.length
 ·rw [decide_eq_true (show ((s.Rows.length : Nat) : Int) > 120 by omega), if_pos h]; exact ⟨rfl, rfl⟩
 rw [decide_eq_false (show ¬ ((s.Rows.length : Nat) : Int) > 120 by omega), if_neg h, qL (by omega) (by omega)]
 simp only [cond_false]
 obtain ⟨l1, l2, l3, l4⟩ := chk_L s (by omega)
 by_cases h1 : s.Low < -60
 ·rw [decide_eq_true h1, if_pos (.inl h1)]; exact ⟨rfl, rfl⟩
 rw [decide_eq_false h1]
 by_cases h2 : 60 - (s.Rows.length : Int) < s.Low
 ·rw [decide_eq_true (show s.Low > _ from h2), if_pos (.inr h2)]; exact ⟨rfl, rfl⟩
 rw [decide_eq_false (show ¬ s.Low > _ from h2), if_neg (by omega)]
 unfold UA NO TR NZ qI3
 simp only [cond_false, l1, l2, l3, l4, Option.bind_some, OA, qDs]
 cases findE bad9 s.Rows with
 | inl e => exact ⟨rfl, rfl⟩
 | inr u =>
  simp only [Sum.elim_inr]
  by_cases h0 : s.Rows.length = 0
  ·rw [if_pos h0, h0]
   by_cases hw : s.Low = 0
   ·rw [if_pos hw, hw]; exact ⟨rfl, rfl⟩
   ·rw [if_neg hw]
    have : (s.Low != 0) = true := by simpa using hw
    simp [this]
  ·rw [if_neg h0]
   have e0 : (((s.Rows.length : Nat) : Int) == 0) = false := by rw [beq_eq_false_iff_ne]; omega
   have e1 : w64 (((s.Rows.length : Nat) : Int) - 1) = ((s.Rows.length - 1 : Nat) : Int) := by rw [qL (by omega) (by omega)]; omega
   rw [e0, qV (by omega) (by omega), e1, qV (by omega) (by omega)]
   simp only [cond_false, cond_true, Int.toNat_zero, Int.toNat_natCast]
   cases hf : empS (s.Rows.getD 0 default) with
   | true => simp
   | false => cases hg : empS (s.Rows.getD (s.Rows.length - 1) default) with
    | true => simp
    | false =>
     simp only [cond_false, Bool.false_eq_true, or_self, if_false]
     cases findE bad19 s.Rows <;> exact ⟨rfl, rfl⟩
def nilS : qK := ⟨0, []⟩
def PT (s : qK) : qK := if JE s = 0 then s else nilS
theorem qMf (s : qK) : KE s = some (PT s) := by
 unfold KE PT
 rw [(qD7 s).1]
 simp only [Option.bind_some]
 by_cases h : JE s = 0
 ·rw [h]; rfl
 ·have : (JE s != 0) = true := by simpa using h
  rw [this, if_neg h]; rfl
def nrm (x : Span) : Span := bif empS x then ⟨0, 0⟩ else x
theorem qJA (x : Span) : empS (nrm x) = empS x := by
 unfold nrm
 cases h : empS x with
 | true => rfl
 | false => simpa using h
theorem qPk {x : Span} (h : empS x = false) : nrm x = x := by unfold nrm; rw [h]; rfl
theorem nrm_emp {x : Span} (h : empS x = true) : nrm x = ⟨0, 0⟩ := by unfold nrm; rw [h]; rfl
/-- The span of a section in a row. -/
def row (s : qK) (r : Int) : Span := if r < s.Low then ⟨0, 0⟩ else s.Rows.getD (r - s.Low).toNat default
/-- Neither end is empty. -/
structure Trim (s : qK) : Prop where
 nil : s.Rows = [] → s.Low = 0
 first : s.Rows ≠ [] → empS (s.Rows.getD 0 default) = false
 last : s.Rows ≠ [] → empS (s.Rows.getD (s.Rows.length - 1) default) = false
theorem qN7 {α : Type} [Inhabited α] {l : List α} {i : Nat} (h : l.length ≤ i) : l.getD i default = default := by
 rw [List.getD_eq_getElem?_getD, List.getElem?_eq_none h]; rfl
theorem row_at {s : qK} {i : Nat} : row s (s.Low + i) = s.Rows.getD i default := by
 unfold row
 rw [if_neg (by omega)]
 congr 1
 omega
/-- A valid section. -/
structure VS (s : qK) : Prop extends Trim s where
 len : s.Rows.length ≤ 120
 low : -60 ≤ s.Low
 high : s.Low + s.Rows.length ≤ 60
 rng : ∀ x ∈ s.Rows, rngS x = true
 zero : ∀ x ∈ s.Rows, empS x = true → x = ⟨0, 0⟩
theorem qP6 {x : Span} : bad9 x = none ↔ rngS x = true := by unfold bad9; cases rngS x <;> simp
theorem zeroS_iff {x : Span} : qDL x = true ↔ x = ⟨0, 0⟩ := by unfold qDL; cases x; simp
theorem qHC {x : Span} : bad19 x = none ↔ (empS x = true → x = ⟨0, 0⟩) := by
 unfold bad19
 cases h : empS x with
 | false => simp
 | true => cases hz : qDL x with
  | true => simp [zeroS_iff.1 hz]
  | false => simp; intro e; rw [zeroS_iff.2 e] at hz; cases hz
theorem qCA {ε α : Type} {bad : α → Option ε} {l : List α} {e : ε} (h : findE bad l = .inl e) : ∃ a ∈ l, bad a = some e := by
 induction l with
 | nil => cases h
 | cons a l ih =>
  unfold findE at h
  cases hb : bad a with
  | some e' => rw [hb] at h; cases h; exact ⟨a, by simp, hb⟩
  | none => rw [hb] at h; obtain ⟨x, hx, hx'⟩ := ih h; exact ⟨x, List.mem_cons_of_mem _ hx, hx'⟩
theorem chk10_zero (s : qK) : JE s = 0 ↔ VS s := by
 unfold JE
 by_cases h : 120 < s.Rows.length
 ·rw [if_pos h]; exact ⟨fun h => absurd h (by decide), fun hv => by have := hv.len; omega⟩
 rw [if_neg h]
 by_cases h1 : s.Low < -60 ∨ 60 - (s.Rows.length : Int) < s.Low
 ·rw [if_pos h1]; exact ⟨fun h => absurd h (by decide), fun hv => by have := hv.low; have := hv.high; omega⟩
 rw [if_neg h1]
 unfold qI3
 cases h9 : findE bad9 s.Rows with
 | inl e =>
  obtain ⟨a, ha, hb⟩ := qCA h9
  have e9 : e = 9 ∧ rngS a = false := by unfold bad9 at hb; cases hr : rngS a <;> rw [hr] at hb <;> simp at hb; exact ⟨hb.symm, rfl⟩
  simp only
  refine ⟨fun h => by omega, fun hv => ?_⟩
  have := hv.rng a ha
  rw [e9.2] at this; cases this
 | inr u =>
  have hr : ∀ x ∈ s.Rows, rngS x = true := fun x hx => qP6.1 (SQ.1 h9 x hx)
  simp only
  by_cases h0 : s.Rows.length = 0
  ·have en : s.Rows = [] := List.length_eq_zero_iff.1 h0
   rw [if_pos h0]
   by_cases hw : s.Low = 0
   ·rw [if_pos hw]
    exact ⟨fun _ => ⟨⟨fun _ => hw, fun h => absurd en h, fun h => absurd en h⟩, by omega, by omega, by omega, hr, fun x hx => by rw [en] at hx; cases hx⟩, fun _ => rfl⟩
   ·rw [if_neg hw]
    exact ⟨fun h => absurd h (by decide), fun hv => absurd (hv.nil en) hw⟩
  ·rw [if_neg h0]
   have hne : s.Rows ≠ [] := fun e => h0 (by rw [e]; rfl)
   by_cases hf : empS (s.Rows.getD 0 default) = true ∨ empS (s.Rows.getD (s.Rows.length - 1) default) = true
   ·rw [if_pos hf]
    refine ⟨fun h => absurd h (by decide), fun hv => ?_⟩
    rcases hf with hf | hf
    ·rw [hv.first hne] at hf; cases hf
    ·rw [hv.last hne] at hf; cases hf
   ·rw [if_neg hf]
    have f1 : empS (s.Rows.getD 0 default) = false := by simpa using fun h => hf (.inl h)
    have f2 : empS (s.Rows.getD (s.Rows.length - 1) default) = false := by simpa using fun h => hf (.inr h)
    cases h19 : findE bad19 s.Rows with
    | inl e =>
     obtain ⟨a, ha, hb⟩ := qCA h19
     simp only
     have e19 : e = 19 := by unfold bad19 at hb; cases hr : (empS a && !qDL a) <;> rw [hr] at hb <;> simp at hb; exact hb.symm
     refine ⟨fun h => by omega, fun hv => ?_⟩
     have := qHC.2 (hv.zero a ha)
     rw [this] at hb; cases hb
    | inr u' =>
     exact ⟨fun _ => ⟨⟨fun e => absurd e hne, fun _ => f1, fun _ => f2⟩, by omega, by omega, by omega, hr, fun x hx => qHC.1 (SQ.1 h19 x hx)⟩, fun _ => rfl⟩
theorem VS_nil : VS nilS := (chk10_zero nilS).1 rfl
theorem qDH (s : qK) : VS (PT s) := by
 unfold PT
 split
 ·rename_i h; exact (chk10_zero s).1 h
 ·exact VS_nil
theorem AV {s : qK} (h : VS s) : PT s = s := by unfold PT; rw [if_pos ((chk10_zero s).2 h)]
theorem VS.row_rng {s : qK} (h : VS s) (r : Int) : rngS (row s r) = true := by
 unfold row
 split
 ·rfl
 ·by_cases hi : (r - s.Low).toNat < s.Rows.length
  ·exact h.rng _ (ZQ hi)
  ·rw [qN7 (by omega)]; rfl
def mxS (x y : Span) : Span := ⟨imax x.A y.A, imin x.B y.B⟩
theorem qB0 (x y : Span) : YI x y = some (nrm (mxS x y)) := by
 unfold YI nrm mxS empS
 simp only [ge_iff_le]
 cases decide (imin x.B y.B ≤ imax x.A y.A) <;> rfl
def lenS (x : Span) : Int := bif empS x then 0 else x.B - x.A
theorem qMP (n : Int) : IntKind.u64.wrap n = n % 18446744073709551616 := by
 unfold IntKind.wrap
 simp only [IntKind.bits, IntKind.signed, Bool.false_and]
 simp
theorem LS {x : Span} (h : x.B - x.A ≤ 9223372036854775807) : JV x = some (lenS x) := by
 unfold JV qCt SV lenS empS
 by_cases he : x.B ≤ x.A
 ·rw [decide_eq_true (show x.A ≥ x.B from he)]; rfl
 ·rw [decide_eq_false (show ¬ x.A ≥ x.B from he), qMP, qMP, qMP]
  simp only [cond_false, Option.bind_some]
  rw [show (x.B % 18446744073709551616 - x.A % 18446744073709551616) % 18446744073709551616 = x.B - x.A by omega]
  have : imin (x.B - x.A) 9223372036854775807 = x.B - x.A := by have := imin_or (x.B - x.A) 9223372036854775807; omega
  rw [this, qL (by omega) (by omega)]
theorem qN2 (x : Span) : lenS (nrm x) = lenS x := by
 unfold lenS
 rw [qJA]
 cases h : empS x with
 | true => rfl
 | false => rw [qPk h]
theorem len_nn (x : Span) : 0 ≤ lenS x := by unfold lenS empS; by_cases h : x.B ≤ x.A <;> simp [h]; omega
/-- The length of the common part. -/
def ml (x y : Span) : Int := lenS (mxS x y)
theorem ml_b {x : Span} (y : Span) (h : rngS x = true) : 0 ≤ ml x y ∧ ml x y ≤ 1200 ∧ ml x y ≤ lenS x := by
 rw [HA] at h
 have a1 := JM x.A y.A
 have a2 := imin_or x.B y.B
 unfold ml lenS empS mxS
 simp only
 by_cases c : imin x.B y.B ≤ imax x.A y.A
 ·rw [decide_eq_true c]
  by_cases c2 : x.B ≤ x.A
  ·rw [decide_eq_true c2]; simp
  ·rw [decide_eq_false c2]; simp; omega
 ·rw [decide_eq_false c, decide_eq_false (show ¬ x.B ≤ x.A by omega)]
  simp only [cond_false]
  omega
theorem mx_b {x y : Span} (h : rngS x = true) : (nrm (mxS x y)).B - (nrm (mxS x y)).A ≤ 1200 := by
 cases he : empS (mxS x y) with
 | true => rw [nrm_emp he]; decide
 | false =>
  rw [qPk he]
  rw [HA] at h
  have a1 := JM x.A y.A
  have a2 := imin_or x.B y.B
  unfold mxS
  simp only
  omega
theorem ml_eq {x : Span} (y : Span) (h : rngS x = true) : JV (nrm (mxS x y)) = some (ml x y) := by
 have := mx_b (y := y) h
 rw [LS (by omega), qN2]; rfl
/-- The heights of a row. -/
def hgt (r : Int) : Span := ⟨10 * r, 10 * (r + 1)⟩
theorem qFI {r : Int} (h1 : -60 ≤ r) (h2 : r < 60) : rngS (hgt r) = true := by rw [HA]; unfold hgt; simp only; omega
theorem hgt_len (r : Int) : lenS (hgt r) = 10 := by unfold lenS empS hgt; simp only; rw [decide_eq_false (by omega)]; simp only [cond_false]; omega
theorem hgt_eq {r : Int} (h1 : -60 ≤ r) (h2 : r < 60) : PD r (w64 (r + 1)) = some (hgt r) := by
 unfold PD hgt
 rw [qL (n := r + 1) (by omega) (by omega), qL (by omega) (by omega), qL (by omega) (by omega)]
/-- The sum over all rows. -/
def sumR (f : Int → Int) : Int := sumN 120 (fun j => f ((j : Int) - 60))
theorem qDP {s : qK} (h : VS s) (F : Int → Span → Int) (h0 : ∀ r, F r ⟨0, 0⟩ = 0) : sumN s.Rows.length (fun i => F (s.Low + i) (s.Rows.getD i default)) = sumR (fun r => F r (row s r)) := by
 have b1 := h.low
 have b2 := h.high
 have b3 := h.len
 unfold sumR
 have e : 120 = (s.Low + 60).toNat + (s.Rows.length + (120 - (s.Low + 60).toNat - s.Rows.length)) := by omega
 rw [e, qDS, qDS]
 have z1 : sumN (s.Low + 60).toNat (fun j => F ((j : Int) - 60) (row s ((j : Int) - 60))) = 0 := HU (fun i hi => by
  have : row s ((i : Int) - 60) = ⟨0, 0⟩ := by unfold row; rw [if_pos (by omega)]
  rw [this, h0])
 have z2 : sumN (120 - (s.Low + 60).toNat - s.Rows.length) (fun i => F ((((s.Low + 60).toNat + (s.Rows.length + i) : Nat) : Int) - 60) (row s ((((s.Low + 60).toNat + (s.Rows.length + i) : Nat) : Int) - 60))) = 0 := HU (fun i hi => by
  have : row s ((((s.Low + 60).toNat + (s.Rows.length + i) : Nat) : Int) - 60) = ⟨0, 0⟩ := by
   unfold row; rw [if_neg (by omega), qN7 (by omega)]; rfl
  rw [this, h0])
 have z3 : sumN s.Rows.length (fun i => F ((((s.Low + 60).toNat + i : Nat) : Int) - 60) (row s ((((s.Low + 60).toNat + i : Nat) : Int) - 60))) = sumN s.Rows.length (fun i => F (s.Low + i) (s.Rows.getD i default)) := qDI (fun i hi => by
  have : (((s.Low + 60).toNat + i : Nat) : Int) - 60 = s.Low + i := by omega
  rw [this, row_at])
 rw [z1, z3]
 rw [z2]
 omega
def XI (s : qK) : Int := 10 * sumR (fun r => lenS (row s r))
def zM (s : qK) (x y : Span) : Int := sumR (fun r => ml (row s r) x * ml (hgt r) y)
theorem VS.len_b {s : qK} (h : VS s) {i : Nat} (hi : i < s.Rows.length) : 0 ≤ lenS (s.Rows.getD i default) ∧ lenS (s.Rows.getD i default) ≤ 1200 ∧ (s.Rows.getD i default).B - (s.Rows.getD i default).A = lenS (s.Rows.getD i default) := by
 have m := ZQ hi
 have r := HA.1 (h.rng _ m)
 have z := h.zero _ m
 have e : lenS (s.Rows.getD i default) = bif empS (s.Rows.getD i default) then 0 else (s.Rows.getD i default).B - (s.Rows.getD i default).A := rfl
 cases he : empS (s.Rows.getD i default) with
 | true => rw [z he]; decide
 | false =>
  rw [he] at e
  simp only [cond_false] at e
  have hlt : ¬ (s.Rows.getD i default).B ≤ (s.Rows.getD i default).A := of_decide_eq_false he
  omega
theorem qKH (s : qK) (R : Rect) : YQ s R = some (zM (PT s) R.X R.Y) := by
 have h := qDH s
 unfold YQ
 rw [qMf s]
 simp only [Option.bind_some]
 generalize PT s = t at *
 have b := h.len
 have b1 := h.low
 have b2 := h.high
 have pb : ∀ x, x < t.Rows.length → 0 ≤ ml (t.Rows.getD x default) R.X * ml (hgt (t.Low + x)) R.Y ∧ ml (t.Rows.getD x default) R.X * ml (hgt (t.Low + x)) R.Y ≤ 1440000 := fun x hx => by
  have m1 := ml_b R.X (h.rng _ (ZQ hx))
  have m2 := ml_b R.Y (qFI (r := t.Low + x) (by omega) (by omega))
  have := DW (a := ml (t.Rows.getD x default) R.X) (b := ml (hgt (t.Low + x)) R.Y) (m := 1200) (n := 1200) (by omega) (by omega) (by omega) (by omega) (by omega) (by omega)
  exact ⟨Int.mul_nonneg m1.1 m2.1, by omega⟩
 have k1 := JB t.Rows (fun n (a : Int) x => ZJ R t n a x) (fun x => (x : Int)) (fun x a s => s + ml a R.X * ml (hgt (t.Low + x)) R.Y) (fun s => s) (fun x s => 0 ≤ s ∧ s ≤ 1440000 * (x : Int)) (by omega)
  (fun n x a hx hi => by
   have p := pb x hx
   refine ⟨?_, by omega⟩
   rw [ZJ, decide_eq_true (show (x : Int) < _ by omega), qV (by omega) (by omega), zA (by omega), qL (n := t.Low + x) (by omega) (by omega), hgt_eq (r := t.Low + x) (by omega) (by omega)]
   simp only [cond_true, Int.toNat_natCast, Option.bind_some, qB0]
   rw [ml_eq R.X (h.rng _ (ZQ hx)), ml_eq R.Y (qFI (r := t.Low + x) (by omega) (by omega))]
   simp only [Option.bind_some]
   rw [qL (n := _ * _) (by omega) (by omega), qL (by omega) (by omega)])
  (fun n a _ => by rw [ZJ]; simp) (i := 0) rfl 0 (by omega)
 rw [NE (fun x a => ml a R.X * ml (hgt (t.Low + x)) R.Y)] at k1
 have e := qDP h (fun r a => ml a R.X * ml (hgt r) R.Y) (fun r => by
  have : ml ⟨0, 0⟩ R.X = 0 := by have := ml_b (x := ⟨0, 0⟩) R.X rfl; have e : lenS ⟨0, 0⟩ = 0 := rfl; omega
  rw [this]; simp)
 simp only [Nat.zero_add, Int.zero_add] at k1
 rw [e] at k1
 rw [k1.1]
 rfl
theorem qIg (x y : Span) : ml x y = if imin x.B y.B ≤ imax x.A y.A then 0 else imin x.B y.B - imax x.A y.A := by
 unfold ml lenS empS mxS
 simp only
 by_cases c : imin x.B y.B ≤ imax x.A y.A
 ·rw [decide_eq_true c, if_pos c]; rfl
 ·rw [decide_eq_false c, if_neg c]; rfl
theorem qFB (x y : Span) : 0 ≤ ml x y := len_nn _
theorem qKa (x : Span) : lenS x = if x.B ≤ x.A then 0 else x.B - x.A := by
 unfold lenS empS
 by_cases c : x.B ≤ x.A
 ·rw [decide_eq_true c, if_pos c]; rfl
 ·rw [decide_eq_false c, if_neg c]; rfl
theorem ml_le (x y : Span) : ml x y ≤ lenS x := by
 have a2 := imin_or x.B y.B
 have a3 := JM x.A y.A
 rw [qIg, qKa]
 split <;> split <;> omega
theorem qL1 (s : qK) : XI s = sumR (fun r => 10 * lenS (row s r)) := (qMm 120 10 _).symm
theorem qJ4 {f g : Int → Int} (h : ∀ r, -60 ≤ r → r < 60 → f r ≤ g r) : sumR f ≤ sumR g := sumN_le (fun i hi => h _ (by omega) (by omega))
theorem qPF : sumR (fun _ => 0) = 0 := HU (fun _ _ => rfl)
theorem qKP (s : qK) (x y : Span) : 0 ≤ zM s x y := by
 have := qJ4 (f := fun _ => 0) (g := fun r => ml (row s r) x * ml (hgt r) y) (fun r _ _ => Int.mul_nonneg (qFB _ _) (qFB _ _))
 rw [qPF] at this
 exact this
theorem qKi (s : qK) (x y : Span) : zM s x y ≤ XI s := by
 rw [qL1]
 refine qJ4 (fun r _ _ => ?_)
 have h1 := ml_le (row s r) x
 have h2 := ml_le (hgt r) y
 rw [hgt_len] at h2
 have a := Int.mul_le_mul_of_nonneg_left h2 (qFB (row s r) x)
 have b := Int.mul_le_mul_of_nonneg_right h1 (show (0 : Int) ≤ 10 by decide)
 rw [Int.mul_comm 10]
 exact Int.le_trans a b
theorem qH6 {s : qK} (h : VS s) : 0 ≤ XI s ∧ XI s ≤ 1440000 := by
 constructor
 ·exact Int.le_trans (qKP s ⟨0, 0⟩ ⟨0, 0⟩) (qKi s _ _)
 ·rw [qL1]
  refine Int.le_trans (qJ4 (g := fun _ => 12000) (fun r _ _ => ?_)) (by unfold sumR; rw [qOK]; omega)
  have hr := HA.1 (h.row_rng r)
  rw [qKa]
  split <;> omega
end Saw
end Go.SL
