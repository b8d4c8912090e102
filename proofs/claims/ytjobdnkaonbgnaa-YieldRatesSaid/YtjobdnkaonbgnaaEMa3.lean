/- The sections' mathematics (turned from the section seat's texts by mkesec.py). -/
import Derived.Test.YtjobdnkaonbgnaaEMa2
set_option linter.unusedVariables false
set_option linter.unusedSimpArgs false
namespace Go.SL
namespace Saw
def empS (s : Span) : Bool := decide (s.B ≤ s.A)
def rngS (s : Span) : Bool := (decide (-600 ≤ s.A) && decide (s.A ≤ 600)) && (decide (-600 ≤ s.B) && decide (s.B ≤ 600))
def zbQ (s : Span) : Bool := (s.A == 0) && (s.B == 0)
theorem NX {s : Span} : rngS s = true ↔ (-600 ≤ s.A ∧ s.A ≤ 600) ∧ (-600 ≤ s.B ∧ s.B ≤ 600) := by unfold rngS; simp
theorem FP (s : Span) : ZG s = some (empS s) := rfl
theorem IL (s : Span) : FI s = some (empS s) := rfl
theorem qAG (s : Span) : JN s = some (rngS s) := by
 have e : rngS s = (decide (imin s.A s.B ≥ -600) && decide (imax s.A s.B ≤ 600)) := by
  rw [Bool.eq_iff_iff, NX, Bool.and_eq_true, decide_eq_true_eq, decide_eq_true_eq, ge_iff_le, le_imin, qJW]
  omega
 unfold JN JZ
 rw [e]
 cases decide (imin s.A s.B ≥ -600) <;> rfl
theorem qCH (n : Int) : BJ n = some (!(decide (-600 ≤ n) && decide (n ≤ 600))) := by
 unfold BJ BD
 by_cases h1 : n < -600
 ·rw [decide_eq_true h1, decide_eq_false (show ¬ -600 ≤ n by omega)]; rfl
 ·rw [decide_eq_false h1, decide_eq_true (show -600 ≤ n by omega)]
  by_cases h2 : n > 600
  ·rw [decide_eq_true h2, decide_eq_false (show ¬ n ≤ 600 by omega)]; rfl
  ·rw [decide_eq_false h2, decide_eq_true (show n ≤ 600 by omega)]; rfl
def bad9 (s : Span) : Option Int := bif rngS s then none else some 9
def bad19 (s : Span) : Option Int := bif empS s && !zbQ s then some 19 else none
def qD5 (s : qI) : Int :=
 match findE bad9 s.Rows with
 | .inl e => e
 | .inr _ =>
  if s.Rows.length = 0 then (if s.Low = 0 then 0 else 19)
  else if empS (s.Rows.getD 0 default) = true ∨ empS (s.Rows.getD (s.Rows.length - 1) default) = true then 19
  else match findE bad19 s.Rows with
   | .inl e => e
   | .inr _ => 0
def WW (s : qI) : Int := if 120 < s.Rows.length then 4 else if s.Low < -60 ∨ 60 - (s.Rows.length : Int) < s.Low then 9 else qD5 s
theorem chk_L (s : qI) (hl : s.Rows.length ≤ 120) : jQ s FUEL 0 = some (findE bad9 s.Rows) ∧ wC s FUEL 0 = some (findE bad19 s.Rows) ∧ QQ s FUEL 0 = some (findE bad9 s.Rows) ∧ QM s FUEL 0 = some (findE bad19 s.Rows) := by
 have e1 : ∀ (l : List Span) (x : Nat), (l.length : Nat) < 1000 → x < l.length → decide ((x : Int) < ((l.length : Nat) : Int)) = true ∧ inb (x : Int) l.length = true ∧ w64 ((x : Int) + 1) = ((x + 1 : Nat) : Int) := fun l x h hx => ⟨decide_eq_true (by omega), qX (by omega) (by omega), zH (by omega)⟩
 refine ⟨RV s.Rows (jQ s) bad9 (by omega) (fun n x hx => ?_) (fun n => ?_), RV s.Rows (wC s) bad19 (by omega) (fun n x hx => ?_) (fun n => ?_), RV s.Rows (QQ s) bad9 (by omega) (fun n x hx => ?_) (fun n => ?_), RV s.Rows (QM s) bad19 (by omega) (fun n x hx => ?_) (fun n => ?_)⟩
 ·obtain ⟨a1, a2, a3⟩ := e1 s.Rows x (by omega) hx
  rw [jQ]
  simp only [a1, a2, a3, cond_true, Int.toNat_natCast, qAG, Option.bind_some, bad9]
  cases rngS (s.Rows.getD x default) <;> rfl
 ·unfold jQ; simp
 ·obtain ⟨a1, a2, a3⟩ := e1 s.Rows x (by omega) hx
  rw [wC]
  simp only [KL, a1, a2, a3, cond_true, Int.toNat_natCast, FP, Option.bind_some, bad19, zbQ, Bool.and_true]
  cases empS (s.Rows.getD x default) <;> cases ((s.Rows.getD x default).A == 0 && (s.Rows.getD x default).B == 0) <;> rfl
 ·unfold wC; simp
 ·obtain ⟨a1, a2, a3⟩ := e1 s.Rows x (by omega) hx
  rw [QQ]
  simp only [NJ, a1, a2, a3, cond_true, Int.toNat_natCast, qCH, Option.bind_some, bad9, rngS]
  cases (decide (-600 ≤ (s.Rows.getD x default).A) && decide ((s.Rows.getD x default).A ≤ 600)) <;> cases (decide (-600 ≤ (s.Rows.getD x default).B) && decide ((s.Rows.getD x default).B ≤ 600)) <;> rfl
 ·unfold QQ; simp
 ·obtain ⟨a1, a2, a3⟩ := e1 s.Rows x (by omega) hx
  rw [QM]
  simp only [NG, a1, a2, a3, cond_true, Int.toNat_natCast, IL, Option.bind_some, bad19, zbQ, Bool.and_true]
  cases empS (s.Rows.getD x default) <;> cases ((s.Rows.getD x default).A == 0 && (s.Rows.getD x default).B == 0) <;> rfl
 ·unfold QM; simp
theorem qBR (s : qI) : JF s = some (WW s) ∧ AP s = some (WW s) := by
 unfold JF AP WW
 by_cases h : 120 < s.Rows.length
 ·rw [decide_eq_true (show ((s.Rows.length : Nat) : Int) > 120 by omega), if_pos h]; exact ⟨rfl, rfl⟩
 rw [decide_eq_false (show ¬ ((s.Rows.length : Nat) : Int) > 120 by omega), if_neg h, qM (by omega) (by omega)]
 simp only [cond_false]
 obtain ⟨l1, l2, l3, l4⟩ := chk_L s (by omega)
 by_cases h1 : s.Low < -60
 ·rw [decide_eq_true h1, if_pos (.inl h1)]; exact ⟨rfl, rfl⟩
 rw [decide_eq_false h1]
 by_cases h2 : 60 - (s.Rows.length : Int) < s.Low
 ·rw [decide_eq_true (show s.Low > _ from h2), if_pos (.inr h2)]; exact ⟨rfl, rfl⟩
 rw [decide_eq_false (show ¬ s.Low > _ from h2), if_neg (by omega)]
 unfold KH NP KD NR qD5
 simp only [cond_false, l1, l2, l3, l4, Option.bind_some, FP, IL]
 cases findE bad9 s.Rows with
 | inl e => exact ⟨rfl, rfl⟩
 | inr u =>
  simp only [Sum.elim_inr]
  by_cases h0 : s.Rows.length = 0
  ·rw [if_pos h0, h0]
   by_cases hw : s.Low = 0
   ·rw [if_pos hw, hw]; exact ⟨rfl, rfl⟩
   ·rw [if_neg hw]
    have : (s.Low != 0) = true := by simpa using hw
    simp [this]
  ·rw [if_neg h0]
   have e0 : (((s.Rows.length : Nat) : Int) == 0) = false := by rw [beq_eq_false_iff_ne]; omega
   have e1 : w64 (((s.Rows.length : Nat) : Int) - 1) = ((s.Rows.length - 1 : Nat) : Int) := by rw [qM (by omega) (by omega)]; omega
   rw [e0, qX (by omega) (by omega), e1, qX (by omega) (by omega)]
   simp only [cond_false, cond_true, Int.toNat_zero, Int.toNat_natCast]
   cases hf : empS (s.Rows.getD 0 default) with
   | true => simp
   | false => cases hg : empS (s.Rows.getD (s.Rows.length - 1) default) with
    | true => simp
    | false =>
     simp only [cond_false, Bool.false_eq_true, or_self, if_false]
     cases findE bad19 s.Rows <;> exact ⟨rfl, rfl⟩
def nilS : qI := ⟨0, []⟩
def FE (s : qI) : qI := if WW s = 0 then s else nilS
theorem qFX (s : qI) : JC s = some (FE s) := by
 unfold JC FE
 rw [(qBR s).1]
 simp only [Option.bind_some]
 by_cases h : WW s = 0
 ·rw [h]; rfl
 ·have : (WW s != 0) = true := by simpa using h
  rw [this, if_neg h]; rfl
def nrm (x : Span) : Span := bif empS x then ⟨0, 0⟩ else x
theorem qHl (x : Span) : empS (nrm x) = empS x := by
 unfold nrm
 cases h : empS x with
 | true => rfl
 | false => simpa using h
theorem qI8 {x : Span} (h : empS x = false) : nrm x = x := by unfold nrm; rw [h]; rfl
theorem nrm_emp {x : Span} (h : empS x = true) : nrm x = ⟨0, 0⟩ := by unfold nrm; rw [h]; rfl
/-- The span of a section in a row. -/
def row (s : qI) (r : Int) : Span := if r < s.Low then ⟨0, 0⟩ else s.Rows.getD (r - s.Low).toNat default
/-- Neither end is empty. -/
structure Trim (s : qI) : Prop where
 nil : s.Rows = [] → s.Low = 0
 first : s.Rows ≠ [] → empS (s.Rows.getD 0 default) = false
 last : s.Rows ≠ [] → empS (s.Rows.getD (s.Rows.length - 1) default) = false
theorem qHi {α : Type} [Inhabited α] {l : List α} {i : Nat} (h : l.length ≤ i) : l.getD i default = default := by
 rw [List.getD_eq_getElem?_getD, List.getElem?_eq_none h]; rfl
theorem row_at {s : qI} {i : Nat} : row s (s.Low + i) = s.Rows.getD i default := by
 unfold row
 rw [if_neg (by omega)]
 congr 1
 omega
/-- A valid section. -/
structure VS (s : qI) : Prop extends Trim s where
 len : s.Rows.length ≤ 120
 low : -60 ≤ s.Low
 high : s.Low + s.Rows.length ≤ 60
 rng : ∀ x ∈ s.Rows, rngS x = true
 zero : ∀ x ∈ s.Rows, empS x = true → x = ⟨0, 0⟩
theorem qIO {x : Span} : bad9 x = none ↔ rngS x = true := by unfold bad9; cases rngS x <;> simp
theorem zeroS_iff {x : Span} : zbQ x = true ↔ x = ⟨0, 0⟩ := by unfold zbQ; cases x; simp
theorem qDl {x : Span} : bad19 x = none ↔ (empS x = true → x = ⟨0, 0⟩) := by
 unfold bad19
 cases h : empS x with
 | false => simp
 | true => cases hz : zbQ x with
  | true => simp [zeroS_iff.1 hz]
  | false => simp; intro e; rw [zeroS_iff.2 e] at hz; cases hz
theorem SR {ε α : Type} {bad : α → Option ε} {l : List α} {e : ε} (h : findE bad l = .inl e) : ∃ a ∈ l, bad a = some e := by
 induction l with
 | nil => cases h
 | cons a l ih =>
  unfold findE at h
  cases hb : bad a with
  | some e' => rw [hb] at h; cases h; exact ⟨a, by simp, hb⟩
  | none => rw [hb] at h; obtain ⟨x, hx, hx'⟩ := ih h; exact ⟨x, List.mem_cons_of_mem _ hx, hx'⟩
theorem chk10_zero (s : qI) : WW s = 0 ↔ VS s := by
 unfold WW
 by_cases h : 120 < s.Rows.length
 ·rw [if_pos h]; exact ⟨fun h => absurd h (by decide), fun hv => by have := hv.len; omega⟩
 rw [if_neg h]
 by_cases h1 : s.Low < -60 ∨ 60 - (s.Rows.length : Int) < s.Low
 ·rw [if_pos h1]; exact ⟨fun h => absurd h (by decide), fun hv => by have := hv.low; have := hv.high; omega⟩
 rw [if_neg h1]
 unfold qD5
 cases h9 : findE bad9 s.Rows with
 | inl e =>
  obtain ⟨a, ha, hb⟩ := SR h9
  have e9 : e = 9 ∧ rngS a = false := by unfold bad9 at hb; cases hr : rngS a <;> rw [hr] at hb <;> simp at hb; exact ⟨hb.symm, rfl⟩
  simp only
  refine ⟨fun h => by omega, fun hv => ?_⟩
  have := hv.rng a ha
  rw [e9.2] at this; cases this
 | inr u =>
  have hr : ∀ x ∈ s.Rows, rngS x = true := fun x hx => qIO.1 (BG.1 h9 x hx)
  simp only
  by_cases h0 : s.Rows.length = 0
  ·have en : s.Rows = [] := List.length_eq_zero_iff.1 h0
   rw [if_pos h0]
   by_cases hw : s.Low = 0
   ·rw [if_pos hw]
    exact ⟨fun _ => ⟨⟨fun _ => hw, fun h => absurd en h, fun h => absurd en h⟩, by omega, by omega, by omega, hr, fun x hx => by rw [en] at hx; cases hx⟩, fun _ => rfl⟩
   ·rw [if_neg hw]
    exact ⟨fun h => absurd h (by decide), fun hv => absurd (hv.nil en) hw⟩
  ·rw [if_neg h0]
   have hne : s.Rows ≠ [] := fun e => h0 (by rw [e]; rfl)
   by_cases hf : empS (s.Rows.getD 0 default) = true ∨ empS (s.Rows.getD (s.Rows.length - 1) default) = true
   ·rw [if_pos hf]
    refine ⟨fun h => absurd h (by decide), fun hv => ?_⟩
    rcases hf with hf | hf
    ·rw [hv.first hne] at hf; cases hf
    ·rw [hv.last hne] at hf; cases hf
   ·rw [if_neg hf]
    have f1 : empS (s.Rows.getD 0 default) = false := by simpa using fun h => hf (.inl h)
    have f2 : empS (s.Rows.getD (s.Rows.length - 1) default) = false := by simpa using fun h => hf (.inr h)
    cases h19 : findE bad19 s.Rows with
    | inl e =>
     obtain ⟨a, ha, hb⟩ := SR h19
     simp only
     have e19 : e = 19 := by unfold bad19 at hb; cases hr : (empS a && !zbQ a) <;> rw [hr] at hb <;> simp at hb; exact hb.symm
     refine ⟨fun h => by omega, fun hv => ?_⟩
     have := qDl.2 (hv.zero a ha)
     rw [this] at hb; cases hb
    | inr u' =>
     exact ⟨fun _ => ⟨⟨fun e => absurd e hne, fun _ => f1, fun _ => f2⟩, by omega, by omega, by omega, hr, fun x hx => qDl.1 (BG.1 h19 x hx)⟩, fun _ => rfl⟩
theorem VS_nil : VS nilS := (chk10_zero nilS).1 rfl
theorem qGm (s : qI) : VS (FE s) := by
 unfold FE
 split
 ·rename_i h; exact (chk10_zero s).1 h
 ·exact VS_nil
theorem qBS {s : qI} (h : VS s) : FE s = s := by unfold FE; rw [if_pos ((chk10_zero s).2 h)]
theorem VS.row_rng {s : qI} (h : VS s) (r : Int) : rngS (row s r) = true := by
 unfold row
 split
 ·rfl
 ·by_cases hi : (r - s.Low).toNat < s.Rows.length
  ·exact h.rng _ (XY hi)
  ·rw [qHi (by omega)]; rfl
def mxS (x y : Span) : Span := ⟨imax x.A y.A, imin x.B y.B⟩
theorem SK (x y : Span) : ZX x y = some (nrm (mxS x y)) := by
 unfold ZX nrm mxS empS
 simp only [ge_iff_le]
 cases decide (imin x.B y.B ≤ imax x.A y.A) <;> rfl
def lenS (x : Span) : Int := bif empS x then 0 else x.B - x.A
theorem qFP (n : Int) : IntKind.u64.wrap n = n % 18446744073709551616 := by
 unfold IntKind.wrap
 simp only [IntKind.bits, IntKind.signed, Bool.false_and]
 simp
theorem VM {x : Span} (h : x.B - x.A ≤ 9223372036854775807) : ZM x = some (lenS x) := by
 unfold ZM EH DN lenS empS
 by_cases he : x.B ≤ x.A
 ·rw [decide_eq_true (show x.A ≥ x.B from he)]; rfl
 ·rw [decide_eq_false (show ¬ x.A ≥ x.B from he), qFP, qFP, qFP]
  simp only [cond_false, Option.bind_some]
  rw [show (x.B % 18446744073709551616 - x.A % 18446744073709551616) % 18446744073709551616 = x.B - x.A by omega]
  have : imin (x.B - x.A) 9223372036854775807 = x.B - x.A := by have := imin_or (x.B - x.A) 9223372036854775807; omega
  rw [this, qM (by omega) (by omega)]
theorem qHq (x : Span) : lenS (nrm x) = lenS x := by
 unfold lenS
 rw [qHl]
 cases h : empS x with
 | true => rfl
 | false => rw [qI8 h]
theorem len_nn (x : Span) : 0 ≤ lenS x := by unfold lenS empS; by_cases h : x.B ≤ x.A <;> simp [h]; omega
/-- The length of the common part. -/
def ml (x y : Span) : Int := lenS (mxS x y)
theorem ml_b {x : Span} (y : Span) (h : rngS x = true) : 0 ≤ ml x y ∧ ml x y ≤ 1200 ∧ ml x y ≤ lenS x := by
 rw [NX] at h
 have a1 := HC x.A y.A
 have a2 := imin_or x.B y.B
 unfold ml lenS empS mxS
 simp only
 by_cases c : imin x.B y.B ≤ imax x.A y.A
 ·rw [decide_eq_true c]
  by_cases c2 : x.B ≤ x.A
  ·rw [decide_eq_true c2]; simp
  ·rw [decide_eq_false c2]; simp; omega
 ·rw [decide_eq_false c, decide_eq_false (show ¬ x.B ≤ x.A by omega)]
  simp only [cond_false]
  omega
theorem mx_b {x y : Span} (h : rngS x = true) : (nrm (mxS x y)).B - (nrm (mxS x y)).A ≤ 1200 := by
 cases he : empS (mxS x y) with
 | true => rw [nrm_emp he]; decide
 | false =>
  rw [qI8 he]
  rw [NX] at h
  have a1 := HC x.A y.A
  have a2 := imin_or x.B y.B
  unfold mxS
  simp only
  omega
theorem ml_eq {x : Span} (y : Span) (h : rngS x = true) : ZM (nrm (mxS x y)) = some (ml x y) := by
 have := mx_b (y := y) h
 rw [VM (by omega), qHq]; rfl
/-- The heights of a row. -/
def hgt (r : Int) : Span := ⟨10 * r, 10 * (r + 1)⟩
theorem qHv {r : Int} (h1 : -60 ≤ r) (h2 : r < 60) : rngS (hgt r) = true := by rw [NX]; unfold hgt; simp only; omega
theorem hgt_len (r : Int) : lenS (hgt r) = 10 := by unfold lenS empS hgt; simp only; rw [decide_eq_false (by omega)]; simp only [cond_false]; omega
theorem hgt_eq {r : Int} (h1 : -60 ≤ r) (h2 : r < 60) : JM r (w64 (r + 1)) = some (hgt r) := by
 unfold JM hgt
 rw [qM (n := r + 1) (by omega) (by omega), qM (by omega) (by omega), qM (by omega) (by omega)]
/-- The sum over all rows. -/
def sumR (f : Int → Int) : Int := sumN 120 (fun j => f ((j : Int) - 60))
theorem qF1 {s : qI} (h : VS s) (F : Int → Span → Int) (h0 : ∀ r, F r ⟨0, 0⟩ = 0) : sumN s.Rows.length (fun i => F (s.Low + i) (s.Rows.getD i default)) = sumR (fun r => F r (row s r)) := by
 have b1 := h.low
 have b2 := h.high
 have b3 := h.len
 unfold sumR
 have e : 120 = (s.Low + 60).toNat + (s.Rows.length + (120 - (s.Low + 60).toNat - s.Rows.length)) := by omega
 rw [e, IU, IU]
 have z1 : sumN (s.Low + 60).toNat (fun j => F ((j : Int) - 60) (row s ((j : Int) - 60))) = 0 := qAL (fun i hi => by
  have : row s ((i : Int) - 60) = ⟨0, 0⟩ := by unfold row; rw [if_pos (by omega)]
  rw [this, h0])
 have z2 : sumN (120 - (s.Low + 60).toNat - s.Rows.length) (fun i => F ((((s.Low + 60).toNat + (s.Rows.length + i) : Nat) : Int) - 60) (row s ((((s.Low + 60).toNat + (s.Rows.length + i) : Nat) : Int) - 60))) = 0 := qAL (fun i hi => by
  have : row s ((((s.Low + 60).toNat + (s.Rows.length + i) : Nat) : Int) - 60) = ⟨0, 0⟩ := by
   unfold row; rw [if_neg (by omega), qHi (by omega)]; rfl
  rw [this, h0])
 have z3 : sumN s.Rows.length (fun i => F ((((s.Low + 60).toNat + i : Nat) : Int) - 60) (row s ((((s.Low + 60).toNat + i : Nat) : Int) - 60))) = sumN s.Rows.length (fun i => F (s.Low + i) (s.Rows.getD i default)) := OA (fun i hi => by
  have : (((s.Low + 60).toNat + i : Nat) : Int) - 60 = s.Low + i := by omega
  rw [this, row_at])
 rw [z1, z3]
 rw [z2]
 omega
def UJ (s : qI) : Int := 10 * sumR (fun r => lenS (row s r))
def wZ (s : qI) (x y : Span) : Int := sumR (fun r => ml (row s r) x * ml (hgt r) y)
theorem VS.len_b {s : qI} (h : VS s) {i : Nat} (hi : i < s.Rows.length) : 0 ≤ lenS (s.Rows.getD i default) ∧ lenS (s.Rows.getD i default) ≤ 1200 ∧ (s.Rows.getD i default).B - (s.Rows.getD i default).A = lenS (s.Rows.getD i default) := by
 have m := XY hi
 have r := NX.1 (h.rng _ m)
 have z := h.zero _ m
 have e : lenS (s.Rows.getD i default) = bif empS (s.Rows.getD i default) then 0 else (s.Rows.getD i default).B - (s.Rows.getD i default).A := rfl
 cases he : empS (s.Rows.getD i default) with
 | true => rw [z he]; decide
 | false =>
  rw [he] at e
  simp only [cond_false] at e
  have hlt : ¬ (s.Rows.getD i default).B ≤ (s.Rows.getD i default).A := of_decide_eq_false he
  omega
theorem qEE (s : qI) (R : Rect) : WA s R = some (wZ (FE s) R.X R.Y) := by
 have h := qGm s
 unfold WA
 rw [qFX s]
 simp only [Option.bind_some]
 generalize FE s = t at *
 have b := h.len
 have b1 := h.low
 have b2 := h.high
 have pb : ∀ x, x < t.Rows.length → 0 ≤ ml (t.Rows.getD x default) R.X * ml (hgt (t.Low + x)) R.Y ∧ ml (t.Rows.getD x default) R.X * ml (hgt (t.Low + x)) R.Y ≤ 1440000 := fun x hx => by
  have m1 := ml_b R.X (h.rng _ (XY hx))
  have m2 := ml_b R.Y (qHv (r := t.Low + x) (by omega) (by omega))
  have := DB (a := ml (t.Rows.getD x default) R.X) (b := ml (hgt (t.Low + x)) R.Y) (m := 1200) (n := 1200) (by omega) (by omega) (by omega) (by omega) (by omega) (by omega)
  exact ⟨Int.mul_nonneg m1.1 m2.1, by omega⟩
 have k1 := DA t.Rows (fun n (a : Int) x => yP R t n a x) (fun x => (x : Int)) (fun x a s => s + ml a R.X * ml (hgt (t.Low + x)) R.Y) (fun s => s) (fun x s => 0 ≤ s ∧ s ≤ 1440000 * (x : Int)) (by omega)
  (fun n x a hx hi => by
   have p := pb x hx
   refine ⟨?_, by omega⟩
   rw [yP, decide_eq_true (show (x : Int) < _ by omega), qX (by omega) (by omega), zH (by omega), qM (n := t.Low + x) (by omega) (by omega), hgt_eq (r := t.Low + x) (by omega) (by omega)]
   simp only [cond_true, Int.toNat_natCast, Option.bind_some, SK]
   rw [ml_eq R.X (h.rng _ (XY hx)), ml_eq R.Y (qHv (r := t.Low + x) (by omega) (by omega))]
   simp only [Option.bind_some]
   rw [qM (n := _ * _) (by omega) (by omega), qM (by omega) (by omega)])
  (fun n a _ => by rw [yP]; simp) (i := 0) rfl 0 (by omega)
 rw [SV (fun x a => ml a R.X * ml (hgt (t.Low + x)) R.Y)] at k1
 have e := qF1 h (fun r a => ml a R.X * ml (hgt r) R.Y) (fun r => by
  have : ml ⟨0, 0⟩ R.X = 0 := by have := ml_b (x := ⟨0, 0⟩) R.X rfl; have e : lenS ⟨0, 0⟩ = 0 := rfl; omega
  rw [this]; simp)
 simp only [Nat.zero_add, Int.zero_add] at k1
 rw [e] at k1
 rw [k1.1]
 rfl
theorem ml_def (x y : Span) : ml x y = if imin x.B y.B ≤ imax x.A y.A then 0 else imin x.B y.B - imax x.A y.A := by
 unfold ml lenS empS mxS
 simp only
 by_cases c : imin x.B y.B ≤ imax x.A y.A
 ·rw [decide_eq_true c, if_pos c]; rfl
 ·rw [decide_eq_false c, if_neg c]; rfl
theorem qC0 (x y : Span) : 0 ≤ ml x y := len_nn _
theorem qEd (x : Span) : lenS x = if x.B ≤ x.A then 0 else x.B - x.A := by
 unfold lenS empS
 by_cases c : x.B ≤ x.A
 ·rw [decide_eq_true c, if_pos c]; rfl
 ·rw [decide_eq_false c, if_neg c]; rfl
theorem ml_le (x y : Span) : ml x y ≤ lenS x := by
 have a2 := imin_or x.B y.B
 have a3 := HC x.A y.A
 rw [ml_def, qEd]
 split <;> split <;> omega
theorem qGB (s : qI) : UJ s = sumR (fun r => 10 * lenS (row s r)) := (qJD 120 10 _).symm
theorem qD7 {f g : Int → Int} (h : ∀ r, -60 ≤ r → r < 60 → f r ≤ g r) : sumR f ≤ sumR g := sumN_le (fun i hi => h _ (by omega) (by omega))
theorem qIC : sumR (fun _ => 0) = 0 := qAL (fun _ _ => rfl)
theorem qEJ (s : qI) (x y : Span) : 0 ≤ wZ s x y := by
 have := qD7 (f := fun _ => 0) (g := fun r => ml (row s r) x * ml (hgt r) y) (fun r _ _ => Int.mul_nonneg (qC0 _ _) (qC0 _ _))
 rw [qIC] at this
 exact this
theorem qEj (s : qI) (x y : Span) : wZ s x y ≤ UJ s := by
 rw [qGB]
 refine qD7 (fun r _ _ => ?_)
 have h1 := ml_le (row s r) x
 have h2 := ml_le (hgt r) y
 rw [hgt_len] at h2
 have a := Int.mul_le_mul_of_nonneg_left h2 (qC0 (row s r) x)
 have b := Int.mul_le_mul_of_nonneg_right h1 (show (0 : Int) ≤ 10 by decide)
 rw [Int.mul_comm 10]
 exact Int.le_trans a b
theorem qGs {s : qI} (h : VS s) : 0 ≤ UJ s ∧ UJ s ≤ 1440000 := by
 constructor
 ·exact Int.le_trans (qEJ s ⟨0, 0⟩ ⟨0, 0⟩) (qEj s _ _)
 ·rw [qGB]
  refine Int.le_trans (qD7 (g := fun _ => 12000) (fun r _ _ => ?_)) (by unfold sumR; rw [qH7]; omega)
  have hr := NX.1 (h.row_rng r)
  rw [qEd]
  split <;> omega
end Saw
end Go.SL

namespace Go.SL
/-- A looking loop with a further state that the index settles. -/
theorem qC9 {ε σ : Type} (N : Nat) (L : Nat → σ → Int → Option (ε ⊕ Unit)) (bad : Nat → Option ε) (st : Nat → σ) (hN : N ≤ 1000000000)
  (h0 : ∀ n i, i < N → (∀ j, j < i → bad j = none) → L (n + 1) (st i) (i : Int) = match bad i with | some e => some (.inl e) | none => L n (st (i + 1)) ((i + 1 : Nat) : Int))
  (h1 : ∀ n, L (n + 1) (st N) (N : Int) = some (.inr ())) : L FUEL (st 0) 0 = some (findN bad 0 N) := by
 have key : ∀ k n x, x + k = N → k < n → (∀ j, j < x → bad j = none) → L n (st x) (x : Int) = some (findN bad x k) := by
  intro k
  induction k with
  | zero =>
   intro n x hx hn hb
   obtain ⟨n, rfl⟩ : ∃ m, n = m + 1 := ⟨n - 1, by omega⟩
   rw [Nat.add_zero] at hx
   subst hx
   exact h1 n
  | succ k ih =>
   intro n x hx hn hb
   obtain ⟨n, rfl⟩ : ∃ m, n = m + 1 := ⟨n - 1, by omega⟩
   rw [h0 n x (by omega) hb, findN]
   cases hc : bad x with
   | some e => rfl
   | none =>
    exact ih n (x + 1) (by omega) (by omega) (fun j hj => by
     by_cases e : j = x
     ·subst e; exact hc
     ·exact hb j (by omega))
 exact key N FUEL 0 (by omega) (by rw [YR]; omega) (fun j hj => by omega)
namespace Saw
/-! ### The check of a solid -/
def zE (l : List qF) (k : Nat) : Int := sumN k (fun i => (l.getD i default).Len)
theorem zL (l : List qF) (k : Nat) : zE l (k + 1) = zE l k + (l.getD k default).Len := rfl
def badSl (l : List qF) (i : Nat) : Option Int :=
 if WW (l.getD i default).Sec ≠ 0 then some (WW (l.getD i default).Sec)
 else if (l.getD i default).Sec.Rows.length = 0 then some 18
 else if (l.getD i default).Len < 1 ∨ 20000 - zE l i < (l.getD i default).Len then some 9 else none
theorem qC1 {l : List qF} {i : Nat} : badSl l i = none ↔ VS (l.getD i default).Sec ∧ (l.getD i default).Sec.Rows ≠ [] ∧ 1 ≤ (l.getD i default).Len ∧ zE l (i + 1) ≤ 20000 := by
 unfold badSl
 rw [← chk10_zero, zL]
 by_cases h1 : WW (l.getD i default).Sec ≠ 0
 ·rw [if_pos h1]; exact ⟨fun h => (by cases h), fun h => absurd h.1 h1⟩
 rw [if_neg h1]
 have h1' : WW (l.getD i default).Sec = 0 := by omega
 by_cases h2 : (l.getD i default).Sec.Rows.length = 0
 ·rw [if_pos h2]; exact ⟨fun h => (by cases h), fun h => absurd (List.length_eq_zero_iff.1 h2) h.2.1⟩
 rw [if_neg h2]
 have h2' : (l.getD i default).Sec.Rows ≠ [] := fun e => h2 (by rw [e]; rfl)
 by_cases h3 : (l.getD i default).Len < 1 ∨ 20000 - zE l i < (l.getD i default).Len
 ·rw [if_pos h3]
  simp only [reduceCtorEq, false_iff]
  rintro ⟨_, _, a, b⟩
  omega
 ·rw [if_neg h3]
  simp only [true_iff]
  exact ⟨h1', h2', by omega, by omega⟩
theorem qJz {l : List qF} {i : Nat} {e : Int} (h : badSl l i = some e) : e ≠ 0 := by
 unfold badSl at h
 split at h
 ·cases h; assumption
 ·split at h
  ·cases h; decide
  ·split at h
   ·cases h; decide
   ·cases h
theorem OL {l : List qF} : ∀ {i : Nat}, (∀ j, j < i → badSl l j = none) → (i : Int) ≤ zE l i ∧ zE l i ≤ 20000
 | 0, _ => ⟨by simp [zE, sumN], by simp [zE, sumN]⟩
 | i + 1, h => by
  have a := qC1.1 (h i (by omega))
  have b := OL (i := i) (fun j hj => h j (by omega))
  rw [zL] at *
  exact ⟨by omega, a.2.2.2⟩
def VX (l : List qF) : Int := if l.length = 0 then 3 else if 24 < l.length then 4 else match findN (badSl l) 0 l.length with | .inl e => e | .inr _ => 0
theorem qHI (l : List qF) (h : l.length ≤ 24) : wU l FUEL 0 0 = some (findN (badSl l) 0 l.length) ∧ QL l FUEL 0 0 = some (findN (badSl l) 0 l.length) := by
 constructor
 ·refine qC9 l.length (wU l) (badSl l) (zE l) (by omega) (fun n i hi hb => ?_) (fun n => ?_)
  ·have b := OL hb
   rw [wU, decide_eq_true (by omega), qX (by omega) (by omega)]
   simp only [cond_true, Int.toNat_natCast, (qBR _).1, Option.bind_some, UK, zH (show i < 4611686018427387904 by omega)]
   rw [qM (n := 20000 - zE l i) (by omega) (by omega)]
   unfold badSl
   by_cases h1 : WW (l.getD i default).Sec ≠ 0
   ·rw [if_pos h1, show (WW (l.getD i default).Sec != 0) = true by rw [bne_iff_ne]; exact h1]; rfl
   rw [if_neg h1, show (WW (l.getD i default).Sec != 0) = false by rw [bne_eq_false_iff_eq]; omega]
   by_cases h2 : (l.getD i default).Sec.Rows.length = 0
   ·rw [if_pos h2, h2]; rfl
   rw [if_neg h2, show ((((l.getD i default).Sec.Rows.length : Nat) : Int) == 0) = false by rw [beq_eq_false_iff_ne]; omega]
   by_cases h3 : (l.getD i default).Len < 1
   ·rw [if_pos (.inl h3), decide_eq_true h3]; rfl
   rw [decide_eq_false h3]
   by_cases h4 : 20000 - zE l i < (l.getD i default).Len
   ·rw [if_pos (.inr h4), decide_eq_true (show (l.getD i default).Len > 20000 - zE l i from h4)]; rfl
   rw [if_neg (by omega), decide_eq_false (show ¬ (l.getD i default).Len > 20000 - zE l i from h4), zL, qM (by omega) (by omega)]
   rfl
  ·rw [wU, decide_eq_false (by omega)]; rfl
 ·refine qC9 l.length (QL l) (badSl l) (zE l) (by omega) (fun n i hi hb => ?_) (fun n => ?_)
  ·have b := OL hb
   rw [QL, decide_eq_true (by omega), qX (by omega) (by omega)]
   simp only [cond_true, Int.toNat_natCast, (qBR _).2, Option.bind_some, ND, zH (show i < 4611686018427387904 by omega)]
   rw [qM (n := 20000 - zE l i) (by omega) (by omega)]
   unfold badSl
   by_cases h1 : WW (l.getD i default).Sec ≠ 0
   ·rw [if_pos h1, show (WW (l.getD i default).Sec != 0) = true by rw [bne_iff_ne]; exact h1]; rfl
   rw [if_neg h1, show (WW (l.getD i default).Sec != 0) = false by rw [bne_eq_false_iff_eq]; omega]
   by_cases h2 : (l.getD i default).Sec.Rows.length = 0
   ·rw [if_pos h2, h2]; rfl
   rw [if_neg h2, show ((((l.getD i default).Sec.Rows.length : Nat) : Int) == 0) = false by rw [beq_eq_false_iff_ne]; omega]
   by_cases h3 : (l.getD i default).Len < 1
   ·rw [if_pos (.inl h3), decide_eq_true h3]; rfl
   rw [decide_eq_false h3]
   by_cases h4 : 20000 - zE l i < (l.getD i default).Len
   ·rw [if_pos (.inr h4), decide_eq_true (show (l.getD i default).Len > 20000 - zE l i from h4)]; rfl
   rw [if_neg (by omega), decide_eq_false (show ¬ (l.getD i default).Len > 20000 - zE l i from h4), zL, qM (by omega) (by omega)]
   rfl
  ·rw [QL, decide_eq_false (by omega)]; rfl
theorem IQ (l : List qF) : YD l = some (VX l) ∧ AO l = some (VX l) := by
 unfold YD AO VX
 by_cases h0 : l.length = 0
 ·rw [if_pos h0, h0]; exact ⟨rfl, rfl⟩
 rw [if_neg h0, show (((l.length : Nat) : Int) == 0) = false by rw [beq_eq_false_iff_ne]; omega]
 by_cases h1 : 24 < l.length
 ·rw [if_pos h1, decide_eq_true (by omega)]; exact ⟨rfl, rfl⟩
 rw [if_neg h1, decide_eq_false (by omega)]
 simp only [cond_false]
 rw [(qHI l (by omega)).1, (qHI l (by omega)).2]
 cases findN (badSl l) 0 l.length <;> exact ⟨rfl, rfl⟩
/-- A valid solid. -/
structure VSol (l : List qF) : Prop where
 ne : 0 < l.length
 len : l.length ≤ 24
 ok : ∀ i, i < l.length → badSl l i = none
theorem DU (l : List qF) : VX l = 0 ↔ VSol l := by
 unfold VX
 by_cases h0 : l.length = 0
 ·rw [if_pos h0]; exact ⟨fun h => absurd h (by decide), fun h => by have := h.ne; omega⟩
 rw [if_neg h0]
 by_cases h1 : 24 < l.length
 ·rw [if_pos h1]; exact ⟨fun h => absurd h (by decide), fun h => by have := h.len; omega⟩
 rw [if_neg h1]
 cases hf : findN (badSl l) 0 l.length with
 | inl e =>
  obtain ⟨i, a, b, c, d⟩ := ZV hf
  simp only
  exact ⟨fun h => absurd h (qJz c), fun h => by rw [h.ok i (by omega)] at c; cases c⟩
 | inr u => exact ⟨fun _ => ⟨by omega, by omega, fun i hi => KN.1 hf i (by omega) (by omega)⟩, fun _ => rfl⟩
theorem VSol.at {l : List qF} (h : VSol l) {i : Nat} (hi : i < l.length) : VS (l.getD i default).Sec ∧ (l.getD i default).Sec.Rows ≠ [] ∧ 1 ≤ (l.getD i default).Len ∧ zE l (i + 1) ≤ 20000 := qC1.1 (h.ok i hi)
theorem VSol.bd {l : List qF} (h : VSol l) {i : Nat} (hi : i ≤ l.length) : (i : Int) ≤ zE l i ∧ zE l i ≤ 20000 := OL (fun j hj => h.ok j (by omega))
theorem VSol.mono {l : List qF} (h : VSol l) : ∀ {j : Nat}, j ≤ l.length → ∀ {i : Nat}, i ≤ j → zE l i ≤ zE l j
 | 0, _, i, hi => by rw [show i = 0 by omega]; exact Int.le_refl _
 | j + 1, hj, i, hi => by
  by_cases e : i = j + 1
  ·rw [e]; exact Int.le_refl _
  ·have := h.mono (j := j) (by omega) (i := i) (by omega)
   have := (h.at (i := j) (by omega)).2.2.1
   rw [zL]; omega
def valL (l : List qF) : List qF := if VX l = 0 then l else []
theorem qDX (l : List qF) : YH l = some (valL l) := by
 unfold YH valL
 rw [(IQ l).1]
 simp only [Option.bind_some]
 by_cases h : VX l = 0
 ·rw [if_pos h, h]; rfl
 ·rw [if_neg h, show (VX l != 0) = true by rw [bne_iff_ne]; exact h]; rfl
theorem IK {l : List qF} (h : VSol l) : valL l = l := by unfold valL; rw [if_pos ((DU l).2 h)]
def wH (l : List qF) : Int := zE l l.length
theorem qFV {l : List qF} (h : VSol l) : yF l FUEL 0 0 = some (wH l) ∧ ZH l FUEL 0 0 = some (wH l) := by
 have hl := h.len
 have f : ∀ k, QB (fun i s => s + (l.getD i default).Len) 0 k 0 = zE l k := by
  intro k
  induction k with
  | zero => rfl
  | succ k ih => rw [OB, ih, Nat.zero_add]; rfl
 constructor
 ·have k := (JO l.length (fun n (s : Int) i => yF l n s i) (fun i s => s + (l.getD i default).Len) (fun s => s) (fun i s => s = zE l i) 0 (by omega) (by omega) (fun n i s hi hs => by
   have b := h.bd (i := i) (by omega)
   have b' := h.bd (i := i + 1) (by omega)
   rw [zL] at b'
   refine ⟨?_, by rw [hs, zL]⟩
   rw [yF, decide_eq_true (by omega), qX (by omega) (by omega)]
   simp only [cond_true, Int.toNat_natCast, zH (show i < 4611686018427387904 by omega)]
   rw [qM (by omega) (by omega)]) (fun n s _ => by rw [yF, decide_eq_false (by omega)]; rfl) 0 rfl).1
  rw [Nat.sub_zero, f] at k
  exact k
 ·have k := (JO l.length (fun n (s : Int) i => ZH l n s i) (fun i s => s + (l.getD i default).Len) (fun s => s) (fun i s => s = zE l i) 0 (by omega) (by omega) (fun n i s hi hs => by
   have b := h.bd (i := i) (by omega)
   have b' := h.bd (i := i + 1) (by omega)
   rw [zL] at b'
   refine ⟨?_, by rw [hs, zL]⟩
   rw [ZH, decide_eq_true (by omega), qX (by omega) (by omega)]
   simp only [cond_true, Int.toNat_natCast, zH (show i < 4611686018427387904 by omega)]
   rw [qM (by omega) (by omega)]) (fun n s _ => by rw [ZH, decide_eq_false (by omega)]; rfl) 0 rfl).1
  rw [Nat.sub_zero, f] at k
  exact k
theorem qEY (l : List qF) : XL l = some (wH (valL l)) ∧ qAu l = some (wH (valL l)) := by
 unfold XL qAu
 rw [qDX, (IQ l).2]
 simp only [Option.bind_some]
 by_cases h : VX l = 0
 ·have v := (DU l).1 h
  rw [IK v, h, (qFV v).1, (qFV v).2]; exact ⟨rfl, rfl⟩
 ·have e : valL l = [] := by unfold valL; rw [if_neg h]
  rw [e, show (VX l != 0) = true by rw [bne_iff_ne]; exact h]
  constructor
  ·rw [YR]; rfl
  ·rfl
def ext (l : List qF) (i : Nat) : Span := ⟨zE l i, zE l (i + 1)⟩
theorem qCl {α : Type} [Inhabited α] (f : Nat → α) {n i : Nat} (h : i < n) : ((List.range n).map f).getD i default = f i := by
 rw [List.getD_eq_getElem?_getD, List.getElem?_map, List.getElem?_range h]; rfl
theorem qHX {l : List qF} (h : VSol l ∨ l = []) : KZ l = some ((List.range l.length).map (ext l)) := by
 unfold KZ
 rcases h with h | h
 ·have hl := h.len
  rw [qIN (by omega) (by omega), Int.toNat_natCast]
  simp only [cond_true]
  have k := JO l.length (fun n (s : List Span × Int) i => QN l n s.1 s.2 i) (fun i s => (s.1.set i (ext l i), zE l (i + 1))) (fun s => s.1)
   (fun i s => s.1.length = l.length ∧ s.2 = zE l i ∧ ∀ j, j < i → s.1.getD j default = ext l j) 0 (by omega) (by omega)
   (fun n i s hi hs => by
    obtain ⟨s1, s2⟩ := s
    obtain ⟨e1, e2, e3⟩ := hs
    simp only at e1 e2 e3
    have b := h.bd (i := i) (by omega)
    have b' := h.bd (i := i + 1) (by omega)
    refine ⟨?_, by simpa using e1, rfl, fun j hj => ?_⟩
    ·simp only
     rw [QN, decide_eq_true (by omega), qX (by omega) (by omega), qX (by omega) (by omega)]
     simp only [cond_true, Int.toNat_natCast, zH (show i < 4611686018427387904 by omega), e2]
     rw [zL] at b'
     rw [qM (by omega) (by omega)]
     rfl
    ·simp only
     by_cases c : j = i
     ·subst c; rw [qG8 _ (by omega)]
     ·rw [qGQ _ (fun e => c e.symm), e3 j (by omega)])
   (fun n s _ => by rw [QN, decide_eq_false (by omega)]; rfl) (List.replicate l.length (Span.mk 0 0), 0) ⟨by simp, rfl, fun j hj => by omega⟩
  obtain ⟨k1, k2, k3, k4⟩ := k
  simp only [Nat.sub_zero] at k1 k2 k3 k4
  rw [show ((0 : Nat) : Int) = 0 from rfl] at k1
  rw [k1]
  simp only [Option.bind_some]
  congr 1
  refine qJN (by simp [k2]) (fun j hj => ?_)
  rw [k2] at hj
  rw [k4 j hj, qCl _ hj]
 ·subst h
  rw [qIN (by simp) (by simp)]
  rw [YR]
  rfl
theorem mx_b' {x y : Span} {M : Int} (h : x.B - x.A ≤ M) (h0 : 0 ≤ M) : (nrm (mxS x y)).B - (nrm (mxS x y)).A ≤ M := by
 unfold nrm
 cases he : empS (mxS x y) with
 | true => simpa using h0
 | false =>
  simp only [cond_false]
  unfold mxS
  have := HC x.A y.A
  have := imin_or x.B y.B
  simp only
  omega
theorem ml_eq' {x : Span} (y : Span) (h : x.B - x.A ≤ 100000) : ZM (nrm (mxS x y)) = some (ml x y) := by
 rw [VM (by have := mx_b' (y := y) h (by omega); omega), qHq]; rfl
theorem ext_len {l : List qF} (h : VSol l) {i : Nat} (hi : i < l.length) : lenS (ext l i) = (l.getD i default).Len := by
 have := (h.at hi).2.2.1
 rw [qEd, show (ext l i).A = zE l i from rfl, show (ext l i).B = zE l i + (l.getD i default).Len from zL l i]
 rw [if_neg (by omega)]; omega
/-- The volume of the solid in a box. -/
def volS (l : List qF) (x y z : Span) : Int := sumN l.length (fun i => ml (ext l i) z * wZ (l.getD i default).Sec x y)
theorem qF9 {s : qI} (h : VS s) (x y : Span) : 0 ≤ wZ s x y ∧ wZ s x y ≤ 1440000 := ⟨qEJ s x y, Int.le_trans (qEj s x y) (qGs h).2⟩
theorem qGx {l : List qF} (h : VSol l) (x y z : Span) {i : Nat} (hi : i < l.length) : 0 ≤ ml (ext l i) z * wZ (l.getD i default).Sec x y ∧ ml (ext l i) z * wZ (l.getD i default).Sec x y ≤ 1440000 * (l.getD i default).Len := by
 have a := qF9 (h.at hi).1 x y
 have b := qC0 (ext l i) z
 have c := ml_le (ext l i) z
 rw [ext_len h hi] at c
 refine ⟨Int.mul_nonneg b a.1, ?_⟩
 have := Int.mul_le_mul c a.2 a.1 (by have := (h.at hi).2.2.1; omega)
 rw [Int.mul_comm 1440000]; exact this
theorem qCd {l : List qF} (h : VSol l) (x y z : Span) : ∀ {k : Nat}, k ≤ l.length → 0 ≤ sumN k (fun i => ml (ext l i) z * wZ (l.getD i default).Sec x y) ∧ sumN k (fun i => ml (ext l i) z * wZ (l.getD i default).Sec x y) ≤ 1440000 * zE l k
 | 0, _ => by simp [sumN, zE]
 | k + 1, hk => by
  have a := qCd h x y z (k := k) (by omega)
  have b := qGx h x y z (i := k) (by omega)
  rw [zL]
  simp only [sumN]
  omega
theorem qFr {l : List qF} (h : VSol l) (x y z : Span) : 0 ≤ volS l x y z ∧ volS l x y z ≤ 28800000000 := by
 have a := qCd h x y z (Nat.le_refl l.length)
 have b := (h.bd (Nat.le_refl l.length)).2
 exact ⟨a.1, Int.le_trans a.2 (by omega)⟩
theorem qAp {l : List qF} (h : VSol l) (b : Box) : ZC l b = some (volS l b.X b.Y b.Z) := by
 have hl := h.len
 unfold ZC
 rw [qDX, IK h]
 simp only [Option.bind_some]
 rw [qHX (.inl h)]
 simp only [Option.bind_some]
 have hlen : ((List.range l.length).map (ext l)).length = l.length := by simp
 have k := (JO l.length (fun n (s : Int) i => jH b l ((List.range l.length).map (ext l)) n s i) (fun i s => s + ml (ext l i) b.Z * wZ (l.getD i default).Sec b.X b.Y) (fun s => s)
  (fun i s => s = sumN i (fun i => ml (ext l i) b.Z * wZ (l.getD i default).Sec b.X b.Y)) 0 (by omega) (by omega)
  (fun n i s hi hs => by
   have p := qCd h b.X b.Y b.Z (k := i) (by omega)
   have t := qGx h b.X b.Y b.Z hi
   have bd := h.bd (i := i) (by omega)
   have at' := (h.at hi).2.2
   rw [zL] at at'
   refine ⟨?_, by rw [hs]; rfl⟩
   rw [jH, hlen, decide_eq_true (by omega), qX (by omega) (by omega)]
   simp only [cond_true, Int.toNat_natCast, zH (show i < 4611686018427387904 by omega), qCl _ hi, SK, Option.bind_some, RF]
   rw [ml_eq' b.Z (show (ext l i).B - (ext l i).A ≤ 100000 by rw [show (ext l i).A = zE l i from rfl, show (ext l i).B = zE l i + (l.getD i default).Len from zL l i]; omega)]
   simp only [Option.bind_some, qEE]
   rw [qBS (h.at hi).1]
   by_cases c : ml (ext l i) b.Z > 0
   ·rw [decide_eq_true c]
    simp only [cond_true]
    rw [qM (n := ml (ext l i) b.Z * wZ (l.getD i default).Sec b.X b.Y) (by omega) (by omega), qM (by omega) (by omega)]
   ·have z : ml (ext l i) b.Z = 0 := by have := qC0 (ext l i) b.Z; omega
    rw [decide_eq_false c, z]
    simp)
  (fun n s _ => by rw [jH, hlen, decide_eq_false (by omega)]; rfl) 0 rfl)
 rw [show ((0 : Nat) : Int) = 0 from rfl] at k
 rw [k.1]
 simp only [Option.bind_some]
 exact congrArg some k.2
end Saw
end Go.SL
