/- Edge's plain mathematics, part 2: Sizes. -/
import Derived.Test.YtgpgnlllieekbaaGreatDoorEMa1
set_option linter.unusedVariables false
set_option linter.unusedSimpArgs false
namespace Go.SL
namespace Saw
theorem jH {n b : Nat} (h1 : n ≤ 1000000) (h2 : b ≤ 1000000) : room n b = true := room_t (by
 have := Nat.mul_le_mul h1 h2; omega)
def ZU (l : List qA) (t : Int) (i : Nat) (s : List Int × List Int) : List Int × List Int :=
 bif (zB (l.getD i default)).1 == t then (s.1 ++ [(zB (l.getD i default)).2], s.2 ++ [(i : Int)])
 else bif (zB (l.getD i default)).2 == t then (s.1 ++ [(zB (l.getD i default)).1], s.2 ++ [(i : Int)])
 else s
def sizes (l : List qA) (t : Int) : List Int × List Int := if wM l ≠ 0 then ([], []) else zX (ZU l t) 0 l.length ([], [])
theorem qBf {l : List qA} {t : Int} {i : Nat} {s : List Int × List Int} (h : s.1.length ≤ i ∧ s.2.length ≤ i) : (ZU l t i s).1.length ≤ i + 1 ∧ (ZU l t i s).2.length ≤ i + 1 := by
 unfold ZU
 cases (zB (l.getD i default)).1 == t with
 | true => simp; omega
 | false => cases (zB (l.getD i default)).2 == t with
  | true => simp; omega
  | false => simp; omega
theorem qHG {l : List qA} (h : ¬ wM l ≠ 0) : l.length ≤ 16 := by
 unfold wM at h
 by_cases q : 16 < l.length
 ·rw [if_pos q] at h; exact absurd (by decide) h
 ·omega
theorem qJz (l : List qA) (t : Int) : KU l t = some (sizes l t) ∧ GE l t = some (sizes l t) := by
 unfold KU GE sizes
 rw [qEr, OT]
 simp only [Option.bind_some]
 by_cases hc : wM l ≠ 0
 ·rw [if_pos hc, show (wM l != 0) = true by rw [bne_iff_ne]; exact hc]; exact ⟨rfl, rfl⟩
 rw [if_neg hc, show (wM l != 0) = false by rw [bne_eq_false_iff_eq]; omega]
 simp only [cond_false]
 have hl := qHG hc
 have A : wR l t FUEL [] [] ((0 : Nat) : Int) = some (zX (ZU l t) 0 (l.length - 0) ([], [])) := by
  refine (zS l.length (fun n (s : List Int × List Int) i => wR l t n s.1 s.2 i) (ZU l t) (fun s => s) (fun i s => s.1.length ≤ i ∧ s.2.length ≤ i) 0 (by omega) (by omega) (fun n i s hN hi => ?_) (fun n s _ => ?_) ([], []) ⟨by simp, by simp⟩).1
  ·refine ⟨?_, qBf hi⟩
   obtain ⟨s1, s2⟩ := s
   try simp only at hi
   try simp only
   rw [wR, decide_eq_true (by omega), qS (by omega) (by omega)]
   simp only [cond_true, Int.toNat_natCast, qU (show i < 4611686018427387904 by omega), (MC _).1, Option.bind_some, DL, DC, jH (show s1.length + 1 ≤ 1000000 by omega) (show 8 ≤ 1000000 by omega), jH (show s2.length + 1 ≤ 1000000 by omega) (show 8 ≤ 1000000 by omega), ZU]
   rw [show (t == (zB (l.getD i default)).1) = ((zB (l.getD i default)).1 == t) from Bool.eq_iff_iff.2 (by rw [beq_iff_eq, beq_iff_eq]; exact eq_comm), show (t == (zB (l.getD i default)).2) = ((zB (l.getD i default)).2 == t) from Bool.eq_iff_iff.2 (by rw [beq_iff_eq, beq_iff_eq]; exact eq_comm)]
   cases (zB (l.getD i default)).1 == t <;> cases (zB (l.getD i default)).2 == t <;> rfl
  ·rw [wR, decide_eq_false (by omega)]; rfl
 have B : wU l t FUEL [] [] ((0 : Nat) : Int) = some (zX (ZU l t) 0 (l.length - 0) ([], [])) := by
  refine (zS l.length (fun n (s : List Int × List Int) i => wU l t n s.1 s.2 i) (ZU l t) (fun s => s) (fun i s => s.1.length ≤ i ∧ s.2.length ≤ i) 0 (by omega) (by omega) (fun n i s hN hi => ?_) (fun n s _ => ?_) ([], []) ⟨by simp, by simp⟩).1
  ·refine ⟨?_, qBf hi⟩
   obtain ⟨s1, s2⟩ := s
   try simp only at hi
   try simp only
   rw [wU, decide_eq_true (by omega), qS (by omega) (by omega)]
   simp only [cond_true, Int.toNat_natCast, qU (show i < 4611686018427387904 by omega), (MC _).2, Option.bind_some, XF, jH (show s1.length + 1 ≤ 1000000 by omega) (show 8 ≤ 1000000 by omega), jH (show s2.length + 1 ≤ 1000000 by omega) (show 8 ≤ 1000000 by omega), ZU]
   cases (zB (l.getD i default)).1 == t <;> cases (zB (l.getD i default)).2 == t <;> rfl
  ·rw [wU, decide_eq_false (by omega)]; rfl
 rw [show ((0 : Nat) : Int) = 0 from rfl] at A B
 rw [A, B]
 exact ⟨rfl, rfl⟩
theorem qCy (l : List qA) (t : Int) : (sizes l t).1.length ≤ 16 ∧ (sizes l t).2.length ≤ 16 := by
 unfold sizes
 by_cases hc : wM l ≠ 0
 ·rw [if_pos hc]; simp
 rw [if_neg hc]
 have hl := qHG hc
 have : ∀ k, (zX (ZU l t) 0 k ([], [])).1.length ≤ k ∧ (zX (ZU l t) 0 k ([], [])).2.length ≤ k := by
  intro k
  induction k with
  | zero => simp [zX]
  | succ k ih => rw [WP, Nat.zero_add]; exact qBf ih
 have := this l.length
 omega
def shortP (p : qA) : Bool := decide (p.Lengths.length ≤ 12) && (decide (p.Prices.length ≤ 12) && decide (p.Name.size ≤ 100))
def badSh (l : List qA) (i : Nat) : Option Bool := if 20 ≤ i then some false else bif shortP (l.getD i default) then none else some false
theorem qBV (l : List qA) (n i : Nat) (hi : i < l.length) (hi' : i ≤ 20) : zU l (n + 1) (i : Int) = match badSh l i with | some e => some (.inl e) | none => zU l n ((i + 1 : Nat) : Int) := by
 rw [zU, decide_eq_true (by omega)]
 simp only [cond_true, Int.toNat_natCast, qU (show i < 4611686018427387904 by omega), qS (show (0 : Int) ≤ (i : Int) by omega) (show (i : Int) < (l.length : Int) by omega), JB, badSh]
 by_cases h1 : 20 ≤ i
 ·rw [if_pos h1, decide_eq_true (show (i : Int) ≥ 20 by omega)]; rfl
 rw [if_neg h1, decide_eq_false (show ¬ (i : Int) ≥ 20 by omega)]
 unfold shortP
 by_cases h2 : (l.getD i default).Lengths.length ≤ 12
 ·rw [decide_eq_true h2, decide_eq_false (show ¬ (((l.getD i default).Lengths.length : Nat) : Int) > 12 by omega)]
  by_cases h3 : (l.getD i default).Prices.length ≤ 12
  ·rw [decide_eq_true h3, decide_eq_false (show ¬ (((l.getD i default).Prices.length : Nat) : Int) > 12 by omega)]
   by_cases h4 : (l.getD i default).Name.size ≤ 100
   ·rw [decide_eq_true h4, decide_eq_false (show ¬ (((l.getD i default).Name.size : Nat) : Int) > 100 by omega)]; rfl
   ·rw [decide_eq_false h4, decide_eq_true (show (((l.getD i default).Name.size : Nat) : Int) > 100 by omega)]; rfl
  ·rw [decide_eq_false h3, decide_eq_true (show (((l.getD i default).Prices.length : Nat) : Int) > 12 by omega)]; rfl
 ·rw [decide_eq_false h2, decide_eq_true (show (((l.getD i default).Lengths.length : Nat) : Int) > 12 by omega)]; rfl
theorem qFj (l : List qA) (h : 20 < l.length) : ∀ (k n i : Nat), i + k = 20 → k < n → zU l n (i : Int) = some (.inl false)
 | 0, n + 1, i, hi, hn => by
  rw [qBV l n i (by omega) (by omega), badSh, if_pos (by omega)]
 | k + 1, n + 1, i, hi, hn => by
  rw [qBV l n i (by omega) (by omega), badSh, if_neg (by omega)]
  cases shortP (l.getD i default) with
  | false => rfl
  | true => exact qFj l h k n (i + 1) (by omega) (by omega)
def isShort (l : List qA) : Bool := decide (l.length ≤ 20) && l.all shortP
theorem qNL (l : List qA) : GQ l = some (isShort l) := by
 unfold GQ isShort
 by_cases h : 20 < l.length
 ·rw [show (0 : Int) = ((0 : Nat) : Int) from rfl, qFj l h 20 FUEL 0 rfl (by rw [PO]; omega), decide_eq_false (by omega)]; rfl
 have L : zU l FUEL ((0 : Nat) : Int) = some (findN (badSh l) 0 (l.length - 0)) := by
  refine wF l.length (zU l) _ 0 (by omega) (by omega) (fun n i hi hN => by rw [qBV l n i hN (by omega)]; cases badSh l i <;> rfl) (fun n => ?_)
  rw [zU, decide_eq_false (by omega)]; rfl
 rw [show ((0 : Nat) : Int) = 0 from rfl] at L
 rw [L, decide_eq_true (by omega), Bool.true_and]
 simp only [Option.bind_some]
 cases hf : findN (badSh l) 0 (l.length - 0) with
 | inl e =>
  obtain ⟨i, a, b, c, d⟩ := yP hf
  unfold badSh at c
  rw [if_neg (by omega)] at c
  cases hs : shortP (l.getD i default) with
  | true => rw [hs] at c; cases c
  | false =>
   rw [hs] at c
   cases c
   simp only [Sum.elim_inl]
   congr 1
   symm
   rw [Bool.eq_false_iff]
   intro q
   rw [List.all_eq_true] at q
   rw [q _ (XY (by omega))] at hs
   cases hs
 | inr u =>
  simp only [Sum.elim_inr]
  congr 1
  symm
  rw [List.all_eq_true]
  intro p hp
  obtain ⟨i, hi, e⟩ := List.getElem_of_mem hp
  have := WQ.1 hf i (by omega) (by omega)
  unfold badSh at this
  rw [if_neg (by omega), show l.getD i default = p by rw [List.getD_eq_getElem?_getD, List.getElem?_eq_getElem hi, e]; rfl] at this
  cases hs : shortP p with
  | true => rfl
  | false => rw [hs] at this; cases this
def empS (s : Span) : Bool := decide (s.B ≤ s.A)
def rngS (s : Span) : Bool := (decide (-600 ≤ s.A) && decide (s.A ≤ 600)) && (decide (-600 ≤ s.B) && decide (s.B ≤ 600))
def qB2 (s : Span) : Bool := (s.A == 0) && (s.B == 0)
theorem MF {s : Span} : rngS s = true ↔ (-600 ≤ s.A ∧ s.A ≤ 600) ∧ (-600 ≤ s.B ∧ s.B ≤ 600) := by unfold rngS; simp
theorem HX (s : Span) : ZY s = some (empS s) := rfl
theorem qBo (s : Span) : WR s = some (empS s) := rfl
theorem qC2 (s : Span) : YT s = some (rngS s) := by
 have e : rngS s = (decide (imin s.A s.B ≥ -600) && decide (imax s.A s.B ≤ 600)) := by
  rw [Bool.eq_iff_iff, MF, Bool.and_eq_true, decide_eq_true_eq, decide_eq_true_eq, ge_iff_le, le_imin, qNM]
  omega
 unfold YT YN
 rw [e]
 cases decide (imin s.A s.B ≥ -600) <;> rfl
theorem qFw (n : Int) : XE n = some (!(decide (-600 ≤ n) && decide (n ≤ 600))) := by
 unfold XE RK
 by_cases h1 : n < -600
 ·rw [decide_eq_true h1, decide_eq_false (show ¬ -600 ≤ n by omega)]; rfl
 ·rw [decide_eq_false h1, decide_eq_true (show -600 ≤ n by omega)]
  by_cases h2 : n > 600
  ·rw [decide_eq_true h2, decide_eq_false (show ¬ n ≤ 600 by omega)]; rfl
  ·rw [decide_eq_false h2, decide_eq_true (show n ≤ 600 by omega)]; rfl
def bad9 (s : Span) : Option Int := bif rngS s then none else some 9
def bad19 (s : Span) : Option Int := bif empS s && !qB2 s then some 19 else none
def qG7 (s : qH) : Int :=
 match findE bad9 s.Rows with
 | .inl e => e
 | .inr _ =>
  if s.Rows.length = 0 then (if s.Low = 0 then 0 else 19)
  else if empS (s.Rows.getD 0 default) = true ∨ empS (s.Rows.getD (s.Rows.length - 1) default) = true then 19
  else match findE bad19 s.Rows with
   | .inl e => e
   | .inr _ => 0
def ZX (s : qH) : Int := if 120 < s.Rows.length then 4 else if s.Low < -60 ∨ 60 - (s.Rows.length : Int) < s.Low then 9 else qG7 s
theorem chk_L (s : qH) (hl : s.Rows.length ≤ 120) : yC s FUEL 0 = some (findE bad9 s.Rows) ∧ wO s FUEL 0 = some (findE bad19 s.Rows) ∧ jP s FUEL 0 = some (findE bad9 s.Rows) ∧ jI s FUEL 0 = some (findE bad19 s.Rows) := by
 have e1 : ∀ (l : List Span) (x : Nat), (l.length : Nat) < 1000 → x < l.length → decide ((x : Int) < ((l.length : Nat) : Int)) = true ∧ inb (x : Int) l.length = true ∧ w64 ((x : Int) + 1) = ((x + 1 : Nat) : Int) := fun l x h hx => ⟨decide_eq_true (by omega), qS (by omega) (by omega), qU (by omega)⟩
 refine ⟨KA s.Rows (yC s) bad9 (by omega) (fun n x hx => ?_) (fun n => ?_), KA s.Rows (wO s) bad19 (by omega) (fun n x hx => ?_) (fun n => ?_), KA s.Rows (jP s) bad9 (by omega) (fun n x hx => ?_) (fun n => ?_), KA s.Rows (jI s) bad19 (by omega) (fun n x hx => ?_) (fun n => ?_)⟩
 ·obtain ⟨a1, a2, a3⟩ := e1 s.Rows x (by omega) hx
  rw [yC]
  simp only [a1, a2, a3, cond_true, Int.toNat_natCast, qC2, Option.bind_some, bad9]
  cases rngS (s.Rows.getD x default) <;> rfl
 ·unfold yC; simp
 ·obtain ⟨a1, a2, a3⟩ := e1 s.Rows x (by omega) hx
  rw [wO]
  simp only [KM, a1, a2, a3, cond_true, Int.toNat_natCast, HX, Option.bind_some, bad19, qB2, Bool.and_true]
  cases empS (s.Rows.getD x default) <;> cases ((s.Rows.getD x default).A == 0 && (s.Rows.getD x default).B == 0) <;> rfl
 ·unfold wO; simp
 ·obtain ⟨a1, a2, a3⟩ := e1 s.Rows x (by omega) hx
  rw [jP]
  simp only [UD, a1, a2, a3, cond_true, Int.toNat_natCast, qFw, Option.bind_some, bad9, rngS]
  cases (decide (-600 ≤ (s.Rows.getD x default).A) && decide ((s.Rows.getD x default).A ≤ 600)) <;> cases (decide (-600 ≤ (s.Rows.getD x default).B) && decide ((s.Rows.getD x default).B ≤ 600)) <;> rfl
 ·unfold jP; simp
 ·obtain ⟨a1, a2, a3⟩ := e1 s.Rows x (by omega) hx
  rw [jI]
  simp only [UT, a1, a2, a3, cond_true, Int.toNat_natCast, qBo, Option.bind_some, bad19, qB2, Bool.and_true]
  cases empS (s.Rows.getD x default) <;> cases ((s.Rows.getD x default).A == 0 && (s.Rows.getD x default).B == 0) <;> rfl
 ·unfold jI; simp
theorem qBN (s : qH) : JT s = some (ZX s) ∧ PK s = some (ZX s) := by
 unfold JT PK ZX
 by_cases h : 120 < s.Rows.length
 ·rw [decide_eq_true (show ((s.Rows.length : Nat) : Int) > 120 by omega), if_pos h]; exact ⟨rfl, rfl⟩
 rw [decide_eq_false (show ¬ ((s.Rows.length : Nat) : Int) > 120 by omega), if_neg h, qJ (by omega) (by omega)]
 simp only [cond_false]
 obtain ⟨l1, l2, l3, l4⟩ := chk_L s (by omega)
 by_cases h1 : s.Low < -60
 ·rw [decide_eq_true h1, if_pos (.inl h1)]; exact ⟨rfl, rfl⟩
 rw [decide_eq_false h1]
 by_cases h2 : 60 - (s.Rows.length : Int) < s.Low
 ·rw [decide_eq_true (show s.Low > _ from h2), if_pos (.inr h2)]; exact ⟨rfl, rfl⟩
 rw [decide_eq_false (show ¬ s.Low > _ from h2), if_neg (by omega)]
 unfold KJ UX KS UR qG7
 simp only [cond_false, l1, l2, l3, l4, Option.bind_some, HX, qBo]
 cases findE bad9 s.Rows with
 | inl e => exact ⟨rfl, rfl⟩
 | inr u =>
  simp only [Sum.elim_inr]
  by_cases h0 : s.Rows.length = 0
  ·rw [if_pos h0, h0]
   by_cases hw : s.Low = 0
   ·rw [if_pos hw, hw]; exact ⟨rfl, rfl⟩
   ·rw [if_neg hw]
    have : (s.Low != 0) = true := by simpa using hw
    simp [this]
  ·rw [if_neg h0]
   have e0 : (((s.Rows.length : Nat) : Int) == 0) = false := by rw [beq_eq_false_iff_ne]; omega
   have e1 : w64 (((s.Rows.length : Nat) : Int) - 1) = ((s.Rows.length - 1 : Nat) : Int) := by rw [qJ (by omega) (by omega)]; omega
   rw [e0, qS (by omega) (by omega), e1, qS (by omega) (by omega)]
   simp only [cond_false, cond_true, Int.toNat_zero, Int.toNat_natCast]
   cases hf : empS (s.Rows.getD 0 default) with
   | true => simp
   | false => cases hg : empS (s.Rows.getD (s.Rows.length - 1) default) with
    | true => simp
    | false =>
     simp only [cond_false, Bool.false_eq_true, or_self, if_false]
     cases findE bad19 s.Rows <;> exact ⟨rfl, rfl⟩
def nilS : qH := ⟨0, []⟩
def DA (s : qH) : qH := if ZX s = 0 then s else nilS
theorem qMX (s : qH) : PB s = some (DA s) := by
 unfold PB DA
 rw [(qBN s).1]
 simp only [Option.bind_some]
 by_cases h : ZX s = 0
 ·rw [h]; rfl
 ·have : (ZX s != 0) = true := by simpa using h
  rw [this, if_neg h]; rfl
def nrm (x : Span) : Span := bif empS x then ⟨0, 0⟩ else x
theorem qHc (x : Span) : empS (nrm x) = empS x := by
 unfold nrm
 cases h : empS x with
 | true => rfl
 | false => simpa using h
theorem qMF {x : Span} (h : empS x = false) : nrm x = x := by unfold nrm; rw [h]; rfl
theorem nrm_emp {x : Span} (h : empS x = true) : nrm x = ⟨0, 0⟩ := by unfold nrm; rw [h]; rfl
/-- The span of a section in a row. -/
def row (s : qH) (r : Int) : Span := if r < s.Low then ⟨0, 0⟩ else s.Rows.getD (r - s.Low).toNat default
/-- Neither end is empty. -/
structure Trim (s : qH) : Prop where
 nil : s.Rows = [] → s.Low = 0
 first : s.Rows ≠ [] → empS (s.Rows.getD 0 default) = false
 last : s.Rows ≠ [] → empS (s.Rows.getD (s.Rows.length - 1) default) = false
theorem qK1 {α : Type} [Inhabited α] {l : List α} {i : Nat} (h : l.length ≤ i) : l.getD i default = default := by
 rw [List.getD_eq_getElem?_getD, List.getElem?_eq_none h]; rfl
theorem row_at {s : qH} {i : Nat} : row s (s.Low + i) = s.Rows.getD i default := by
 unfold row
 rw [if_neg (by omega)]
 congr 1
 omega
/-- A valid section. -/
structure VS (s : qH) : Prop extends Trim s where
 len : s.Rows.length ≤ 120
 low : -60 ≤ s.Low
 high : s.Low + s.Rows.length ≤ 60
 rng : ∀ x ∈ s.Rows, rngS x = true
 zero : ∀ x ∈ s.Rows, empS x = true → x = ⟨0, 0⟩
theorem qME {x : Span} : bad9 x = none ↔ rngS x = true := by unfold bad9; cases rngS x <;> simp
theorem zeroS_iff {x : Span} : qB2 x = true ↔ x = ⟨0, 0⟩ := by unfold qB2; cases x; simp
theorem qFz {x : Span} : bad19 x = none ↔ (empS x = true → x = ⟨0, 0⟩) := by
 unfold bad19
 cases h : empS x with
 | false => simp
 | true => cases hz : qB2 x with
  | true => simp [zeroS_iff.1 hz]
  | false => simp; intro e; rw [zeroS_iff.2 e] at hz; cases hz
theorem qAT {ε α : Type} {bad : α → Option ε} {l : List α} {e : ε} (h : findE bad l = .inl e) : ∃ a ∈ l, bad a = some e := by
 induction l with
 | nil => cases h
 | cons a l ih =>
  unfold findE at h
  cases hb : bad a with
  | some e' => rw [hb] at h; cases h; exact ⟨a, by simp, hb⟩
  | none => rw [hb] at h; obtain ⟨x, hx, hx'⟩ := ih h; exact ⟨x, List.mem_cons_of_mem _ hx, hx'⟩
theorem chk10_zero (s : qH) : ZX s = 0 ↔ VS s := by
 unfold ZX
 by_cases h : 120 < s.Rows.length
 ·rw [if_pos h]; exact ⟨fun h => absurd h (by decide), fun hv => by have := hv.len; omega⟩
 rw [if_neg h]
 by_cases h1 : s.Low < -60 ∨ 60 - (s.Rows.length : Int) < s.Low
 ·rw [if_pos h1]; exact ⟨fun h => absurd h (by decide), fun hv => by have := hv.low; have := hv.high; omega⟩
 rw [if_neg h1]
 unfold qG7
 cases h9 : findE bad9 s.Rows with
 | inl e =>
  obtain ⟨a, ha, hb⟩ := qAT h9
  have e9 : e = 9 ∧ rngS a = false := by unfold bad9 at hb; cases hr : rngS a <;> rw [hr] at hb <;> simp at hb; exact ⟨hb.symm, rfl⟩
  simp only
  refine ⟨fun h => by omega, fun hv => ?_⟩
  have := hv.rng a ha
  rw [e9.2] at this; cases this
 | inr u =>
  have hr : ∀ x ∈ s.Rows, rngS x = true := fun x hx => qME.1 (FA.1 h9 x hx)
  simp only
  by_cases h0 : s.Rows.length = 0
  ·have en : s.Rows = [] := List.length_eq_zero_iff.1 h0
   rw [if_pos h0]
   by_cases hw : s.Low = 0
   ·rw [if_pos hw]
    exact ⟨fun _ => ⟨⟨fun _ => hw, fun h => absurd en h, fun h => absurd en h⟩, by omega, by omega, by omega, hr, fun x hx => by rw [en] at hx; cases hx⟩, fun _ => rfl⟩
   ·rw [if_neg hw]
    exact ⟨fun h => absurd h (by decide), fun hv => absurd (hv.nil en) hw⟩
  ·rw [if_neg h0]
   have hne : s.Rows ≠ [] := fun e => h0 (by rw [e]; rfl)
   by_cases hf : empS (s.Rows.getD 0 default) = true ∨ empS (s.Rows.getD (s.Rows.length - 1) default) = true
   ·rw [if_pos hf]
    refine ⟨fun h => absurd h (by decide), fun hv => ?_⟩
    rcases hf with hf | hf
    ·rw [hv.first hne] at hf; cases hf
    ·rw [hv.last hne] at hf; cases hf
   ·rw [if_neg hf]
    have f1 : empS (s.Rows.getD 0 default) = false := by simpa using fun h => hf (.inl h)
    have f2 : empS (s.Rows.getD (s.Rows.length - 1) default) = false := by simpa using fun h => hf (.inr h)
    cases h19 : findE bad19 s.Rows with
    | inl e =>
     obtain ⟨a, ha, hb⟩ := qAT h19
     simp only
     have e19 : e = 19 := by unfold bad19 at hb; cases hr : (empS a && !qB2 a) <;> rw [hr] at hb <;> simp at hb; exact hb.symm
     refine ⟨fun h => by omega, fun hv => ?_⟩
     have := qFz.2 (hv.zero a ha)
     rw [this] at hb; cases hb
    | inr u' =>
     exact ⟨fun _ => ⟨⟨fun e => absurd e hne, fun _ => f1, fun _ => f2⟩, by omega, by omega, by omega, hr, fun x hx => qFz.1 (FA.1 h19 x hx)⟩, fun _ => rfl⟩
theorem VS_nil : VS nilS := (chk10_zero nilS).1 rfl
theorem qJv (s : qH) : VS (DA s) := by
 unfold DA
 split
 ·rename_i h; exact (chk10_zero s).1 h
 ·exact VS_nil
theorem qBX {s : qH} (h : VS s) : DA s = s := by unfold DA; rw [if_pos ((chk10_zero s).2 h)]
theorem VS.row_rng {s : qH} (h : VS s) (r : Int) : rngS (row s r) = true := by
 unfold row
 split
 ·rfl
 ·by_cases hi : (r - s.Low).toNat < s.Rows.length
  ·exact h.rng _ (XY hi)
  ·rw [qK1 (by omega)]; rfl
def mxS (x y : Span) : Span := ⟨imax x.A y.A, imin x.B y.B⟩
theorem OK (x y : Span) : WS x y = some (nrm (mxS x y)) := by
 unfold WS nrm mxS empS
 simp only [ge_iff_le]
 cases decide (imin x.B y.B ≤ imax x.A y.A) <;> rfl
def lenS (x : Span) : Int := bif empS x then 0 else x.B - x.A
theorem qI9 (n : Int) : IntKind.u64.wrap n = n % 18446744073709551616 := by
 unfold IntKind.wrap
 simp only [IntKind.bits, IntKind.signed, Bool.false_and]
 simp
theorem qD4 {x : Span} (h : x.B - x.A ≤ 9223372036854775807) : KE x = some (lenS x) := by
 unfold KE qAk NU lenS empS
 by_cases he : x.B ≤ x.A
 ·rw [decide_eq_true (show x.A ≥ x.B from he)]; rfl
 ·rw [decide_eq_false (show ¬ x.A ≥ x.B from he), qI9, qI9, qI9]
  simp only [cond_false, Option.bind_some]
  rw [show (x.B % 18446744073709551616 - x.A % 18446744073709551616) % 18446744073709551616 = x.B - x.A by omega]
  have : imin (x.B - x.A) 9223372036854775807 = x.B - x.A := by have := ZW (x.B - x.A) 9223372036854775807; omega
  rw [this, qJ (by omega) (by omega)]
theorem qK9 (x : Span) : lenS (nrm x) = lenS x := by
 unfold lenS
 rw [qHc]
 cases h : empS x with
 | true => rfl
 | false => rw [qMF h]
theorem len_nn (x : Span) : 0 ≤ lenS x := by unfold lenS empS; by_cases h : x.B ≤ x.A <;> simp [h]; omega
/-- The length of the common part. -/
def ml (x y : Span) : Int := lenS (mxS x y)
theorem ml_b {x : Span} (y : Span) (h : rngS x = true) : 0 ≤ ml x y ∧ ml x y ≤ 1200 ∧ ml x y ≤ lenS x := by
 rw [MF] at h
 have a1 := ZS x.A y.A
 have a2 := ZW x.B y.B
 unfold ml lenS empS mxS
 simp only
 by_cases c : imin x.B y.B ≤ imax x.A y.A
 ·rw [decide_eq_true c]
  by_cases c2 : x.B ≤ x.A
  ·rw [decide_eq_true c2]; simp
  ·rw [decide_eq_false c2]; simp; omega
 ·rw [decide_eq_false c, decide_eq_false (show ¬ x.B ≤ x.A by omega)]
  simp only [cond_false]
  omega
theorem mx_b {x y : Span} (h : rngS x = true) : (nrm (mxS x y)).B - (nrm (mxS x y)).A ≤ 1200 := by
 cases he : empS (mxS x y) with
 | true => rw [nrm_emp he]; decide
 | false =>
  rw [qMF he]
  rw [MF] at h
  have a1 := ZS x.A y.A
  have a2 := ZW x.B y.B
  unfold mxS
  simp only
  omega
theorem ml_eq {x : Span} (y : Span) (h : rngS x = true) : KE (nrm (mxS x y)) = some (ml x y) := by
 have := mx_b (y := y) h
 rw [qD4 (by omega), qK9]; rfl
/-- The heights of a row. -/
def hgt (r : Int) : Span := ⟨10 * r, 10 * (r + 1)⟩
theorem qDw {r : Int} (h1 : -60 ≤ r) (h2 : r < 60) : rngS (hgt r) = true := by rw [MF]; unfold hgt; simp only; omega
theorem hgt_len (r : Int) : lenS (hgt r) = 10 := by unfold lenS empS hgt; simp only; rw [decide_eq_false (by omega)]; simp only [cond_false]; omega
theorem hgt_eq {r : Int} (h1 : -60 ≤ r) (h2 : r < 60) : YI r (w64 (r + 1)) = some (hgt r) := by
 unfold YI hgt
 rw [qJ (n := r + 1) (by omega) (by omega), qJ (by omega) (by omega), qJ (by omega) (by omega)]
/-- The sum over all rows. -/
def sumR (f : Int → Int) : Int := sumN 120 (fun j => f ((j : Int) - 60))
theorem qJ7 {s : qH} (h : VS s) (F : Int → Span → Int) (h0 : ∀ r, F r ⟨0, 0⟩ = 0) : sumN s.Rows.length (fun i => F (s.Low + i) (s.Rows.getD i default)) = sumR (fun r => F r (row s r)) := by
 have b1 := h.low
 have b2 := h.high
 have b3 := h.len
 unfold sumR
 have e : 120 = (s.Low + 60).toNat + (s.Rows.length + (120 - (s.Low + 60).toNat - s.Rows.length)) := by omega
 rw [e, qB9, qB9]
 have z1 : sumN (s.Low + 60).toNat (fun j => F ((j : Int) - 60) (row s ((j : Int) - 60))) = 0 := NC (fun i hi => by
  have : row s ((i : Int) - 60) = ⟨0, 0⟩ := by unfold row; rw [if_pos (by omega)]
  rw [this, h0])
 have z2 : sumN (120 - (s.Low + 60).toNat - s.Rows.length) (fun i => F ((((s.Low + 60).toNat + (s.Rows.length + i) : Nat) : Int) - 60) (row s ((((s.Low + 60).toNat + (s.Rows.length + i) : Nat) : Int) - 60))) = 0 := NC (fun i hi => by
  have : row s ((((s.Low + 60).toNat + (s.Rows.length + i) : Nat) : Int) - 60) = ⟨0, 0⟩ := by
   unfold row; rw [if_neg (by omega), qK1 (by omega)]; rfl
  rw [this, h0])
 have z3 : sumN s.Rows.length (fun i => F ((((s.Low + 60).toNat + i : Nat) : Int) - 60) (row s ((((s.Low + 60).toNat + i : Nat) : Int) - 60))) = sumN s.Rows.length (fun i => F (s.Low + i) (s.Rows.getD i default)) := qBL (fun i hi => by
  have : (((s.Low + 60).toNat + i : Nat) : Int) - 60 = s.Low + i := by omega
  rw [this, row_at])
 rw [z1, z3]
 rw [z2]
 omega
def qI3 (s : qH) : Int := 10 * sumR (fun r => lenS (row s r))
def zL (s : qH) (x y : Span) : Int := sumR (fun r => ml (row s r) x * ml (hgt r) y)
theorem qHN (s : qH) (R : Rect) : WU s R = some (zL (DA s) R.X R.Y) := by
 have h := qJv s
 unfold WU
 rw [qMX s]
 simp only [Option.bind_some]
 generalize DA s = t at *
 have b := h.len
 have b1 := h.low
 have b2 := h.high
 have pb : ∀ x, x < t.Rows.length → 0 ≤ ml (t.Rows.getD x default) R.X * ml (hgt (t.Low + x)) R.Y ∧ ml (t.Rows.getD x default) R.X * ml (hgt (t.Low + x)) R.Y ≤ 1440000 := fun x hx => by
  have m1 := ml_b R.X (h.rng _ (XY hx))
  have m2 := ml_b R.Y (qDw (r := t.Low + x) (by omega) (by omega))
  have := yD (a := ml (t.Rows.getD x default) R.X) (b := ml (hgt (t.Low + x)) R.Y) (m := 1200) (n := 1200) (by omega) (by omega) (by omega) (by omega) (by omega) (by omega)
  exact ⟨Int.mul_nonneg m1.1 m2.1, by omega⟩
 have k1 := qC7 t.Rows (fun n (a : Int) x => QK R t n a x) (fun x => (x : Int)) (fun x a s => s + ml a R.X * ml (hgt (t.Low + x)) R.Y) (fun s => s) (fun x s => 0 ≤ s ∧ s ≤ 1440000 * (x : Int)) (by omega)
  (fun n x a hx hi => by
   have p := pb x hx
   refine ⟨?_, by omega⟩
   rw [QK, decide_eq_true (show (x : Int) < _ by omega), qS (by omega) (by omega), qU (by omega), qJ (n := t.Low + x) (by omega) (by omega), hgt_eq (r := t.Low + x) (by omega) (by omega)]
   simp only [cond_true, Int.toNat_natCast, Option.bind_some, OK]
   rw [ml_eq R.X (h.rng _ (XY hx)), ml_eq R.Y (qDw (r := t.Low + x) (by omega) (by omega))]
   simp only [Option.bind_some]
   rw [qJ (n := _ * _) (by omega) (by omega), qJ (by omega) (by omega)])
  (fun n a _ => by rw [QK]; simp) (i := 0) rfl 0 (by omega)
 rw [qCT (fun x a => ml a R.X * ml (hgt (t.Low + x)) R.Y)] at k1
 have e := qJ7 h (fun r a => ml a R.X * ml (hgt r) R.Y) (fun r => by
  have : ml ⟨0, 0⟩ R.X = 0 := by have := ml_b (x := ⟨0, 0⟩) R.X rfl; have e : lenS ⟨0, 0⟩ = 0 := rfl; omega
  rw [this]; simp)
 simp only [Nat.zero_add, Int.zero_add] at k1
 rw [e] at k1
 rw [k1.1]
 rfl
theorem qFd (x y : Span) : ml x y = if imin x.B y.B ≤ imax x.A y.A then 0 else imin x.B y.B - imax x.A y.A := by
 unfold ml lenS empS mxS
 simp only
 by_cases c : imin x.B y.B ≤ imax x.A y.A
 ·rw [decide_eq_true c, if_pos c]; rfl
 ·rw [decide_eq_false c, if_neg c]; rfl
theorem qDq (x y : Span) : 0 ≤ ml x y := len_nn _
theorem qGO (x : Span) : lenS x = if x.B ≤ x.A then 0 else x.B - x.A := by
 unfold lenS empS
 by_cases c : x.B ≤ x.A
 ·rw [decide_eq_true c, if_pos c]; rfl
 ·rw [decide_eq_false c, if_neg c]; rfl
theorem ml_le (x y : Span) : ml x y ≤ lenS x := by
 have a2 := ZW x.B y.B
 have a3 := ZS x.A y.A
 rw [qFd, qGO]
 split <;> split <;> omega
theorem qJT (s : qH) : qI3 s = sumR (fun r => 10 * lenS (row s r)) := (qNN 120 10 _).symm
theorem qG5 {f g : Int → Int} (h : ∀ r, -60 ≤ r → r < 60 → f r ≤ g r) : sumR f ≤ sumR g := sumN_le (fun i hi => h _ (by omega) (by omega))
theorem qMs : sumR (fun _ => 0) = 0 := NC (fun _ _ => rfl)
theorem qHY (s : qH) (x y : Span) : 0 ≤ zL s x y := by
 have := qG5 (f := fun _ => 0) (g := fun r => ml (row s r) x * ml (hgt r) y) (fun r _ _ => Int.mul_nonneg (qDq _ _) (qDq _ _))
 rw [qMs] at this
 exact this
theorem qHU (s : qH) (x y : Span) : zL s x y ≤ qI3 s := by
 rw [qJT]
 refine qG5 (fun r _ _ => ?_)
 have h1 := ml_le (row s r) x
 have h2 := ml_le (hgt r) y
 rw [hgt_len] at h2
 have a := Int.mul_le_mul_of_nonneg_left h2 (qDq (row s r) x)
 have b := Int.mul_le_mul_of_nonneg_right h1 (show (0 : Int) ≤ 10 by decide)
 rw [Int.mul_comm 10]
 exact Int.le_trans a b
theorem area_b {s : qH} (h : VS s) : 0 ≤ qI3 s ∧ qI3 s ≤ 1440000 := by
 constructor
 ·exact Int.le_trans (qHY s ⟨0, 0⟩ ⟨0, 0⟩) (qHU s _ _)
 ·rw [qJT]
  refine Int.le_trans (qG5 (g := fun _ => 12000) (fun r _ _ => ?_)) (by unfold sumR; rw [qLz]; omega)
  have hr := MF.1 (h.row_rng r)
  rw [qGO]
  split <;> omega
end Saw
end Go.SL

namespace Go.SL
/-- A looking loop with a further state that the index settles. -/
theorem qFN {ε σ : Type} (N : Nat) (L : Nat → σ → Int → Option (ε ⊕ Unit)) (bad : Nat → Option ε) (st : Nat → σ) (hN : N ≤ 1000000000)
  (h0 : ∀ n i, i < N → (∀ j, j < i → bad j = none) → L (n + 1) (st i) (i : Int) = match bad i with | some e => some (.inl e) | none => L n (st (i + 1)) ((i + 1 : Nat) : Int))
  (h1 : ∀ n, L (n + 1) (st N) (N : Int) = some (.inr ())) : L FUEL (st 0) 0 = some (findN bad 0 N) := by
 have key : ∀ k n x, x + k = N → k < n → (∀ j, j < x → bad j = none) → L n (st x) (x : Int) = some (findN bad x k) := by
  intro k
  induction k with
  | zero =>
   intro n x hx hn hb
   obtain ⟨n, rfl⟩ : ∃ m, n = m + 1 := ⟨n - 1, by omega⟩
   rw [Nat.add_zero] at hx
   subst hx
   exact h1 n
  | succ k ih =>
   intro n x hx hn hb
   obtain ⟨n, rfl⟩ : ∃ m, n = m + 1 := ⟨n - 1, by omega⟩
   rw [h0 n x (by omega) hb, findN]
   cases hc : bad x with
   | some e => rfl
   | none =>
    exact ih n (x + 1) (by omega) (by omega) (fun j hj => by
     by_cases e : j = x
     ·subst e; exact hc
     ·exact hb j (by omega))
 exact key N FUEL 0 (by omega) (by rw [PO]; omega) (fun j hj => by omega)
namespace Saw
/-! ### The check of a solid -/
def qT (l : List Slice) (k : Nat) : Int := sumN k (fun i => (l.getD i default).Len)
theorem zO (l : List Slice) (k : Nat) : qT l (k + 1) = qT l k + (l.getD k default).Len := rfl
def badSl (l : List Slice) (i : Nat) : Option Int :=
 if ZX (l.getD i default).Sec ≠ 0 then some (ZX (l.getD i default).Sec)
 else if (l.getD i default).Sec.Rows.length = 0 then some 18
 else if (l.getD i default).Len < 1 ∨ 20000 - qT l i < (l.getD i default).Len then some 9 else none
theorem qE0 {l : List Slice} {i : Nat} : badSl l i = none ↔ VS (l.getD i default).Sec ∧ (l.getD i default).Sec.Rows ≠ [] ∧ 1 ≤ (l.getD i default).Len ∧ qT l (i + 1) ≤ 20000 := by
 unfold badSl
 rw [← chk10_zero, zO]
 by_cases h1 : ZX (l.getD i default).Sec ≠ 0
 ·rw [if_pos h1]; exact ⟨fun h => (by cases h), fun h => absurd h.1 h1⟩
 rw [if_neg h1]
 have h1' : ZX (l.getD i default).Sec = 0 := by omega
 by_cases h2 : (l.getD i default).Sec.Rows.length = 0
 ·rw [if_pos h2]; exact ⟨fun h => (by cases h), fun h => absurd (List.length_eq_zero_iff.1 h2) h.2.1⟩
 rw [if_neg h2]
 have h2' : (l.getD i default).Sec.Rows ≠ [] := fun e => h2 (by rw [e]; rfl)
 by_cases h3 : (l.getD i default).Len < 1 ∨ 20000 - qT l i < (l.getD i default).Len
 ·rw [if_pos h3]
  simp only [reduceCtorEq, false_iff]
  rintro ⟨_, _, a, b⟩
  omega
 ·rw [if_neg h3]
  simp only [true_iff]
  exact ⟨h1', h2', by omega, by omega⟩
theorem qNI {l : List Slice} {i : Nat} {e : Int} (h : badSl l i = some e) : e ≠ 0 := by
 unfold badSl at h
 split at h
 ·cases h; assumption
 ·split at h
  ·cases h; decide
  ·split at h
   ·cases h; decide
   ·cases h
theorem qBW {l : List Slice} : ∀ {i : Nat}, (∀ j, j < i → badSl l j = none) → (i : Int) ≤ qT l i ∧ qT l i ≤ 20000
 | 0, _ => ⟨by simp [qT, sumN], by simp [qT, sumN]⟩
 | i + 1, h => by
  have a := qE0.1 (h i (by omega))
  have b := qBW (i := i) (fun j hj => h j (by omega))
  rw [zO] at *
  exact ⟨by omega, a.2.2.2⟩
def KH (l : List Slice) : Int := if l.length = 0 then 3 else if 24 < l.length then 4 else match findN (badSl l) 0 l.length with | .inl e => e | .inr _ => 0
theorem qLe (l : List Slice) (h : l.length ≤ 24) : jM l FUEL 0 0 = some (findN (badSl l) 0 l.length) ∧ jE l FUEL 0 0 = some (findN (badSl l) 0 l.length) := by
 constructor
 ·refine qFN l.length (jM l) (badSl l) (qT l) (by omega) (fun n i hi hb => ?_) (fun n => ?_)
  ·have b := qBW hb
   rw [jM, decide_eq_true (by omega), qS (by omega) (by omega)]
   simp only [cond_true, Int.toNat_natCast, (qBN _).1, Option.bind_some, US, qU (show i < 4611686018427387904 by omega)]
   rw [qJ (n := 20000 - qT l i) (by omega) (by omega)]
   unfold badSl
   by_cases h1 : ZX (l.getD i default).Sec ≠ 0
   ·rw [if_pos h1, show (ZX (l.getD i default).Sec != 0) = true by rw [bne_iff_ne]; exact h1]; rfl
   rw [if_neg h1, show (ZX (l.getD i default).Sec != 0) = false by rw [bne_eq_false_iff_eq]; omega]
   by_cases h2 : (l.getD i default).Sec.Rows.length = 0
   ·rw [if_pos h2, h2]; rfl
   rw [if_neg h2, show ((((l.getD i default).Sec.Rows.length : Nat) : Int) == 0) = false by rw [beq_eq_false_iff_ne]; omega]
   by_cases h3 : (l.getD i default).Len < 1
   ·rw [if_pos (.inl h3), decide_eq_true h3]; rfl
   rw [decide_eq_false h3]
   by_cases h4 : 20000 - qT l i < (l.getD i default).Len
   ·rw [if_pos (.inr h4), decide_eq_true (show (l.getD i default).Len > 20000 - qT l i from h4)]; rfl
   rw [if_neg (by omega), decide_eq_false (show ¬ (l.getD i default).Len > 20000 - qT l i from h4), zO, qJ (by omega) (by omega)]
   rfl
  ·rw [jM, decide_eq_false (by omega)]; rfl
 ·refine qFN l.length (jE l) (badSl l) (qT l) (by omega) (fun n i hi hb => ?_) (fun n => ?_)
  ·have b := qBW hb
   rw [jE, decide_eq_true (by omega), qS (by omega) (by omega)]
   simp only [cond_true, Int.toNat_natCast, (qBN _).2, Option.bind_some, UL, qU (show i < 4611686018427387904 by omega)]
   rw [qJ (n := 20000 - qT l i) (by omega) (by omega)]
   unfold badSl
   by_cases h1 : ZX (l.getD i default).Sec ≠ 0
   ·rw [if_pos h1, show (ZX (l.getD i default).Sec != 0) = true by rw [bne_iff_ne]; exact h1]; rfl
   rw [if_neg h1, show (ZX (l.getD i default).Sec != 0) = false by rw [bne_eq_false_iff_eq]; omega]
   by_cases h2 : (l.getD i default).Sec.Rows.length = 0
   ·rw [if_pos h2, h2]; rfl
   rw [if_neg h2, show ((((l.getD i default).Sec.Rows.length : Nat) : Int) == 0) = false by rw [beq_eq_false_iff_ne]; omega]
   by_cases h3 : (l.getD i default).Len < 1
   ·rw [if_pos (.inl h3), decide_eq_true h3]; rfl
   rw [decide_eq_false h3]
   by_cases h4 : 20000 - qT l i < (l.getD i default).Len
   ·rw [if_pos (.inr h4), decide_eq_true (show (l.getD i default).Len > 20000 - qT l i from h4)]; rfl
   rw [if_neg (by omega), decide_eq_false (show ¬ (l.getD i default).Len > 20000 - qT l i from h4), zO, qJ (by omega) (by omega)]
   rfl
  ·rw [jE, decide_eq_false (by omega)]; rfl
theorem UA (l : List Slice) : YX l = some (KH l) ∧ ZH l = some (KH l) := by
 unfold YX ZH KH
 by_cases h0 : l.length = 0
 ·rw [if_pos h0, h0]; exact ⟨rfl, rfl⟩
 rw [if_neg h0, show (((l.length : Nat) : Int) == 0) = false by rw [beq_eq_false_iff_ne]; omega]
 by_cases h1 : 24 < l.length
 ·rw [if_pos h1, decide_eq_true (by omega)]; exact ⟨rfl, rfl⟩
 rw [if_neg h1, decide_eq_false (by omega)]
 simp only [cond_false]
 rw [(qLe l (by omega)).1, (qLe l (by omega)).2]
 cases findN (badSl l) 0 l.length <;> exact ⟨rfl, rfl⟩
/-- A valid solid. -/
structure VSol (l : List Slice) : Prop where
 ne : 0 < l.length
 len : l.length ≤ 24
 ok : ∀ i, i < l.length → badSl l i = none
theorem YU (l : List Slice) : KH l = 0 ↔ VSol l := by
 unfold KH
 by_cases h0 : l.length = 0
 ·rw [if_pos h0]; exact ⟨fun h => absurd h (by decide), fun h => by have := h.ne; omega⟩
 rw [if_neg h0]
 by_cases h1 : 24 < l.length
 ·rw [if_pos h1]; exact ⟨fun h => absurd h (by decide), fun h => by have := h.len; omega⟩
 rw [if_neg h1]
 cases hf : findN (badSl l) 0 l.length with
 | inl e =>
  obtain ⟨i, a, b, c, d⟩ := yP hf
  simp only
  exact ⟨fun h => absurd h (qNI c), fun h => by rw [h.ok i (by omega)] at c; cases c⟩
 | inr u => exact ⟨fun _ => ⟨by omega, by omega, fun i hi => WQ.1 hf i (by omega) (by omega)⟩, fun _ => rfl⟩
theorem VSol.at {l : List Slice} (h : VSol l) {i : Nat} (hi : i < l.length) : VS (l.getD i default).Sec ∧ (l.getD i default).Sec.Rows ≠ [] ∧ 1 ≤ (l.getD i default).Len ∧ qT l (i + 1) ≤ 20000 := qE0.1 (h.ok i hi)
theorem VSol.bd {l : List Slice} (h : VSol l) {i : Nat} (hi : i ≤ l.length) : (i : Int) ≤ qT l i ∧ qT l i ≤ 20000 := qBW (fun j hj => h.ok j (by omega))
theorem VSol.mono {l : List Slice} (h : VSol l) : ∀ {j : Nat}, j ≤ l.length → ∀ {i : Nat}, i ≤ j → qT l i ≤ qT l j
 | 0, _, i, hi => by rw [show i = 0 by omega]; exact Int.le_refl _
 | j + 1, hj, i, hi => by
  by_cases e : i = j + 1
  ·rw [e]; exact Int.le_refl _
  ·have := h.mono (j := j) (by omega) (i := i) (by omega)
   have := (h.at (i := j) (by omega)).2.2.1
   rw [zO]; omega
def valL (l : List Slice) : List Slice := if KH l = 0 then l else []
theorem qLm (l : List Slice) : PR l = some (valL l) := by
 unfold PR valL
 rw [(UA l).1]
 simp only [Option.bind_some]
 by_cases h : KH l = 0
 ·rw [if_pos h, h]; rfl
 ·rw [if_neg h, show (KH l != 0) = true by rw [bne_iff_ne]; exact h]; rfl
theorem PJ {l : List Slice} (h : VSol l) : valL l = l := by unfold valL; rw [if_pos ((YU l).2 h)]
def qX (l : List Slice) : Int := qT l l.length
theorem qKs {l : List Slice} (h : VSol l) : yV l FUEL 0 0 = some (qX l) ∧ QH l FUEL 0 0 = some (qX l) := by
 have hl := h.len
 have f : ∀ k, zX (fun i s => s + (l.getD i default).Len) 0 k 0 = qT l k := by
  intro k
  induction k with
  | zero => rfl
  | succ k ih => rw [WP, ih, Nat.zero_add]; rfl
 constructor
 ·have k := (zS l.length (fun n (s : Int) i => yV l n s i) (fun i s => s + (l.getD i default).Len) (fun s => s) (fun i s => s = qT l i) 0 (by omega) (by omega) (fun n i s hi hs => by
   have b := h.bd (i := i) (by omega)
   have b' := h.bd (i := i + 1) (by omega)
   rw [zO] at b'
   refine ⟨?_, by rw [hs, zO]⟩
   rw [yV, decide_eq_true (by omega), qS (by omega) (by omega)]
   simp only [cond_true, Int.toNat_natCast, qU (show i < 4611686018427387904 by omega)]
   rw [qJ (by omega) (by omega)]) (fun n s _ => by rw [yV, decide_eq_false (by omega)]; rfl) 0 rfl).1
  rw [Nat.sub_zero, f] at k
  exact k
 ·have k := (zS l.length (fun n (s : Int) i => QH l n s i) (fun i s => s + (l.getD i default).Len) (fun s => s) (fun i s => s = qT l i) 0 (by omega) (by omega) (fun n i s hi hs => by
   have b := h.bd (i := i) (by omega)
   have b' := h.bd (i := i + 1) (by omega)
   rw [zO] at b'
   refine ⟨?_, by rw [hs, zO]⟩
   rw [QH, decide_eq_true (by omega), qS (by omega) (by omega)]
   simp only [cond_true, Int.toNat_natCast, qU (show i < 4611686018427387904 by omega)]
   rw [qJ (by omega) (by omega)]) (fun n s _ => by rw [QH, decide_eq_false (by omega)]; rfl) 0 rfl).1
  rw [Nat.sub_zero, f] at k
  exact k
theorem YG (l : List Slice) : JK l = some (qX (valL l)) ∧ yQ l = some (qX (valL l)) := by
 unfold JK yQ
 rw [qLm, (UA l).2]
 simp only [Option.bind_some]
 by_cases h : KH l = 0
 ·have v := (YU l).1 h
  rw [PJ v, h, (qKs v).1, (qKs v).2]; exact ⟨rfl, rfl⟩
 ·have e : valL l = [] := by unfold valL; rw [if_neg h]
  rw [e, show (KH l != 0) = true by rw [bne_iff_ne]; exact h]
  constructor
  ·rw [PO]; rfl
  ·rfl
def ext (l : List Slice) (i : Nat) : Span := ⟨qT l i, qT l (i + 1)⟩
theorem KN {α : Type} [Inhabited α] (f : Nat → α) {n i : Nat} (h : i < n) : ((List.range n).map f).getD i default = f i := by
 rw [List.getD_eq_getElem?_getD, List.getElem?_map, List.getElem?_range h]; rfl
theorem qLB {l : List Slice} (h : VSol l ∨ l = []) : PG l = some ((List.range l.length).map (ext l)) := by
 unfold PG
 rcases h with h | h
 ·have hl := h.len
  rw [qMf (by omega) (by omega), Int.toNat_natCast]
  simp only [cond_true]
  have k := zS l.length (fun n (s : List Span × Int) i => QU l n s.1 s.2 i) (fun i s => (s.1.set i (ext l i), qT l (i + 1))) (fun s => s.1)
   (fun i s => s.1.length = l.length ∧ s.2 = qT l i ∧ ∀ j, j < i → s.1.getD j default = ext l j) 0 (by omega) (by omega)
   (fun n i s hi hs => by
    obtain ⟨s1, s2⟩ := s
    obtain ⟨e1, e2, e3⟩ := hs
    simp only at e1 e2 e3
    have b := h.bd (i := i) (by omega)
    have b' := h.bd (i := i + 1) (by omega)
    refine ⟨?_, by simpa using e1, rfl, fun j hj => ?_⟩
    ·simp only
     rw [QU, decide_eq_true (by omega), qS (by omega) (by omega), qS (by omega) (by omega)]
     simp only [cond_true, Int.toNat_natCast, qU (show i < 4611686018427387904 by omega), e2]
     rw [zO] at b'
     rw [qJ (by omega) (by omega)]
     rfl
    ·simp only
     by_cases c : j = i
     ·subst c; rw [qKT _ (by omega)]
     ·rw [qKL _ (fun e => c e.symm), e3 j (by omega)])
   (fun n s _ => by rw [QU, decide_eq_false (by omega)]; rfl) (List.replicate l.length (Span.mk 0 0), 0) ⟨by simp, rfl, fun j hj => by omega⟩
  obtain ⟨k1, k2, k3, k4⟩ := k
  simp only [Nat.sub_zero] at k1 k2 k3 k4
  rw [show ((0 : Nat) : Int) = 0 from rfl] at k1
  rw [k1]
  simp only [Option.bind_some]
  congr 1
  refine qMT (by simp [k2]) (fun j hj => ?_)
  rw [k2] at hj
  rw [k4 j hj, KN _ hj]
 ·subst h
  rw [qMf (by simp) (by simp)]
  rw [PO]
  rfl
theorem mx_b' {x y : Span} {M : Int} (h : x.B - x.A ≤ M) (h0 : 0 ≤ M) : (nrm (mxS x y)).B - (nrm (mxS x y)).A ≤ M := by
 unfold nrm
 cases he : empS (mxS x y) with
 | true => simpa using h0
 | false =>
  simp only [cond_false]
  unfold mxS
  have := ZS x.A y.A
  have := ZW x.B y.B
  simp only
  omega
theorem ml_eq' {x : Span} (y : Span) (h : x.B - x.A ≤ 100000) : KE (nrm (mxS x y)) = some (ml x y) := by
 rw [qD4 (by have := mx_b' (y := y) h (by omega); omega), qK9]; rfl
theorem ext_len {l : List Slice} (h : VSol l) {i : Nat} (hi : i < l.length) : lenS (ext l i) = (l.getD i default).Len := by
 have := (h.at hi).2.2.1
 rw [qGO, show (ext l i).A = qT l i from rfl, show (ext l i).B = qT l i + (l.getD i default).Len from zO l i]
 rw [if_neg (by omega)]; omega
/-- The volume of the solid in a box. -/
def volS (l : List Slice) (x y z : Span) : Int := sumN l.length (fun i => ml (ext l i) z * zL (l.getD i default).Sec x y)
theorem qES {s : qH} (h : VS s) (x y : Span) : 0 ≤ zL s x y ∧ zL s x y ≤ 1440000 := ⟨qHY s x y, Int.le_trans (qHU s x y) (area_b h).2⟩
theorem qEo {l : List Slice} (h : VSol l) (x y z : Span) {i : Nat} (hi : i < l.length) : 0 ≤ ml (ext l i) z * zL (l.getD i default).Sec x y ∧ ml (ext l i) z * zL (l.getD i default).Sec x y ≤ 1440000 * (l.getD i default).Len := by
 have a := qES (h.at hi).1 x y
 have b := qDq (ext l i) z
 have c := ml_le (ext l i) z
 rw [ext_len h hi] at c
 refine ⟨Int.mul_nonneg b a.1, ?_⟩
 have := Int.mul_le_mul c a.2 a.1 (by have := (h.at hi).2.2.1; omega)
 rw [Int.mul_comm 1440000]; exact this
theorem qB4 {l : List Slice} (h : VSol l) (x y z : Span) : ∀ {k : Nat}, k ≤ l.length → 0 ≤ sumN k (fun i => ml (ext l i) z * zL (l.getD i default).Sec x y) ∧ sumN k (fun i => ml (ext l i) z * zL (l.getD i default).Sec x y) ≤ 1440000 * qT l k
 | 0, _ => by simp [sumN, qT]
 | k + 1, hk => by
  have a := qB4 h x y z (k := k) (by omega)
  have b := qEo h x y z (i := k) (by omega)
  rw [zO]
  simp only [sumN]
  omega
theorem ID {l : List Slice} (h : VSol l) (x y z : Span) : 0 ≤ volS l x y z ∧ volS l x y z ≤ 28800000000 := by
 have a := qB4 h x y z (Nat.le_refl l.length)
 have b := (h.bd (Nat.le_refl l.length)).2
 exact ⟨a.1, Int.le_trans a.2 (by omega)⟩
theorem qJF {l : List Slice} (h : VSol l) (b : Box) : TH l b = some (volS l b.X b.Y b.Z) := by
 have hl := h.len
 unfold TH
 rw [qLm, PJ h]
 simp only [Option.bind_some]
 rw [qLB (.inl h)]
 simp only [Option.bind_some]
 have hlen : ((List.range l.length).map (ext l)).length = l.length := by simp
 have k := (zS l.length (fun n (s : Int) i => jS b l ((List.range l.length).map (ext l)) n s i) (fun i s => s + ml (ext l i) b.Z * zL (l.getD i default).Sec b.X b.Y) (fun s => s)
  (fun i s => s = sumN i (fun i => ml (ext l i) b.Z * zL (l.getD i default).Sec b.X b.Y)) 0 (by omega) (by omega)
  (fun n i s hi hs => by
   have p := qB4 h b.X b.Y b.Z (k := i) (by omega)
   have t := qEo h b.X b.Y b.Z hi
   have bd := h.bd (i := i) (by omega)
   have at' := (h.at hi).2.2
   rw [zO] at at'
   refine ⟨?_, by rw [hs]; rfl⟩
   rw [jS, hlen, decide_eq_true (by omega), qS (by omega) (by omega)]
   simp only [cond_true, Int.toNat_natCast, qU (show i < 4611686018427387904 by omega), KN _ hi, OK, Option.bind_some, PY]
   rw [ml_eq' b.Z (show (ext l i).B - (ext l i).A ≤ 100000 by rw [show (ext l i).A = qT l i from rfl, show (ext l i).B = qT l i + (l.getD i default).Len from zO l i]; omega)]
   simp only [Option.bind_some, qHN]
   rw [qBX (h.at hi).1]
   by_cases c : ml (ext l i) b.Z > 0
   ·rw [decide_eq_true c]
    simp only [cond_true]
    rw [qJ (n := ml (ext l i) b.Z * zL (l.getD i default).Sec b.X b.Y) (by omega) (by omega), qJ (by omega) (by omega)]
   ·have z : ml (ext l i) b.Z = 0 := by have := qDq (ext l i) b.Z; omega
    rw [decide_eq_false c, z]
    simp)
  (fun n s _ => by rw [jS, hlen, decide_eq_false (by omega)]; rfl) 0 rfl)
 rw [show ((0 : Nat) : Int) = 0 from rfl] at k
 rw [k.1]
 simp only [Option.bind_some]
 exact congrArg some k.2
theorem qMl {l : List Slice} (h : VSol l) (r : Rect) (z : Span) : ZG l r z = some (volS l r.X r.Y z) := by
 unfold ZG
 rw [qJF h]; rfl
end Saw
end Go.SL
