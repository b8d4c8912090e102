/- Edge's plain mathematics, part 2: Sizes. -/
import Derived.Test.YtgpgnlllieekbaaDoorEMa1
set_option linter.unusedVariables false
set_option linter.unusedSimpArgs false
namespace Go.SL
namespace Saw

theorem room_small {n b : Nat} (h1 : n ≤ 1000000) (h2 : b ≤ 1000000) : room n b = true := room_t (by
  have := Nat.mul_le_mul h1 h2; omega)
def sizStep (l : List Product) (t : Int) (i : Nat) (s : List Int × List Int) : List Int × List Int :=
  bif (green (l.getD i default)).1 == t then (s.1 ++ [(green (l.getD i default)).2], s.2 ++ [(i : Int)])
  else bif (green (l.getD i default)).2 == t then (s.1 ++ [(green (l.getD i default)).1], s.2 ++ [(i : Int)])
  else s
def sizes (l : List Product) (t : Int) : List Int × List Int := if chk19 l ≠ 0 then ([], []) else foldN (sizStep l t) 0 l.length ([], [])
theorem sizStep_len {l : List Product} {t : Int} {i : Nat} {s : List Int × List Int} (h : s.1.length ≤ i ∧ s.2.length ≤ i) : (sizStep l t i s).1.length ≤ i + 1 ∧ (sizStep l t i s).2.length ≤ i + 1 := by
  unfold sizStep
  cases (green (l.getD i default)).1 == t with
  | true => simp; omega
  | false => cases (green (l.getD i default)).2 == t with
    | true => simp; omega
    | false => simp; omega
theorem chk19_len {l : List Product} (h : ¬ chk19 l ≠ 0) : l.length ≤ 16 := by
  unfold chk19 at h
  by_cases q : 16 < l.length
  · rw [if_pos q] at h; exact absurd (by decide) h
  · omega
theorem Sizes_eq (l : List Product) (t : Int) : edge_Sizes l t = some (sizes l t) ∧ ref23_Sizes l t = some (sizes l t) := by
  unfold edge_Sizes ref23_Sizes sizes
  rw [chk19_eq, ref_chk19_eq]
  simp only [Option.bind_some]
  by_cases hc : chk19 l ≠ 0
  · rw [if_pos hc, show (chk19 l != 0) = true by rw [bne_iff_ne]; exact hc]; exact ⟨rfl, rfl⟩
  rw [if_neg hc, show (chk19 l != 0) = false by rw [bne_eq_false_iff_eq]; omega]
  simp only [cond_false]
  have hl := chk19_len hc
  have A : edge_Sizes_L1 l t FUEL [] [] ((0 : Nat) : Int) = some (foldN (sizStep l t) 0 (l.length - 0) ([], [])) := by
    refine (loop_foldN l.length (fun n (s : List Int × List Int) i => edge_Sizes_L1 l t n s.1 s.2 i) (sizStep l t) (fun s => s) (fun i s => s.1.length ≤ i ∧ s.2.length ≤ i) 0 (by omega) (by omega) (fun n i s hN hi => ?_) (fun n s _ => ?_) ([], []) ⟨by simp, by simp⟩).1
    · refine ⟨?_, sizStep_len hi⟩
      obtain ⟨s1, s2⟩ := s
      try simp only at hi
      try simp only
      rw [edge_Sizes_L1, decide_eq_true (by omega), inb_t (by omega) (by omega)]
      simp only [cond_true, Int.toNat_natCast, inc_eq (show i < 4611686018427387904 by omega), (Green_eq _).1, Option.bind_some, edge_Sizes_k2, edge_Sizes_k3, room_small (show s1.length + 1 ≤ 1000000 by omega) (show 8 ≤ 1000000 by omega), room_small (show s2.length + 1 ≤ 1000000 by omega) (show 8 ≤ 1000000 by omega), sizStep]
      rw [show (t == (green (l.getD i default)).1) = ((green (l.getD i default)).1 == t) from Bool.eq_iff_iff.2 (by rw [beq_iff_eq, beq_iff_eq]; exact eq_comm), show (t == (green (l.getD i default)).2) = ((green (l.getD i default)).2 == t) from Bool.eq_iff_iff.2 (by rw [beq_iff_eq, beq_iff_eq]; exact eq_comm)]
      cases (green (l.getD i default)).1 == t <;> cases (green (l.getD i default)).2 == t <;> rfl
    · rw [edge_Sizes_L1, decide_eq_false (by omega)]; rfl
  have B : ref23_Sizes_L1 l t FUEL [] [] ((0 : Nat) : Int) = some (foldN (sizStep l t) 0 (l.length - 0) ([], [])) := by
    refine (loop_foldN l.length (fun n (s : List Int × List Int) i => ref23_Sizes_L1 l t n s.1 s.2 i) (sizStep l t) (fun s => s) (fun i s => s.1.length ≤ i ∧ s.2.length ≤ i) 0 (by omega) (by omega) (fun n i s hN hi => ?_) (fun n s _ => ?_) ([], []) ⟨by simp, by simp⟩).1
    · refine ⟨?_, sizStep_len hi⟩
      obtain ⟨s1, s2⟩ := s
      try simp only at hi
      try simp only
      rw [ref23_Sizes_L1, decide_eq_true (by omega), inb_t (by omega) (by omega)]
      simp only [cond_true, Int.toNat_natCast, inc_eq (show i < 4611686018427387904 by omega), (Green_eq _).2, Option.bind_some, ref23_Sizes_k2, room_small (show s1.length + 1 ≤ 1000000 by omega) (show 8 ≤ 1000000 by omega), room_small (show s2.length + 1 ≤ 1000000 by omega) (show 8 ≤ 1000000 by omega), sizStep]
      cases (green (l.getD i default)).1 == t <;> cases (green (l.getD i default)).2 == t <;> rfl
    · rw [ref23_Sizes_L1, decide_eq_false (by omega)]; rfl
  rw [show ((0 : Nat) : Int) = 0 from rfl] at A B
  rw [A, B]
  exact ⟨rfl, rfl⟩
theorem sizes_len (l : List Product) (t : Int) : (sizes l t).1.length ≤ 16 ∧ (sizes l t).2.length ≤ 16 := by
  unfold sizes
  by_cases hc : chk19 l ≠ 0
  · rw [if_pos hc]; simp
  rw [if_neg hc]
  have hl := chk19_len hc
  have : ∀ k, (foldN (sizStep l t) 0 k ([], [])).1.length ≤ k ∧ (foldN (sizStep l t) 0 k ([], [])).2.length ≤ k := by
    intro k
    induction k with
    | zero => simp [foldN]
    | succ k ih => rw [foldN_succ, Nat.zero_add]; exact sizStep_len ih
  have := this l.length
  omega
def shortP (p : Product) : Bool := decide (p.Lengths.length ≤ 12) && (decide (p.Prices.length ≤ 12) && decide (p.Name.size ≤ 100))
def badSh (l : List Product) (i : Nat) : Option Bool := if 20 ≤ i then some false else bif shortP (l.getD i default) then none else some false
theorem Short_step (l : List Product) (n i : Nat) (hi : i < l.length) (hi' : i ≤ 20) : law19_Short_L1 l (n + 1) (i : Int) = match badSh l i with | some e => some (.inl e) | none => law19_Short_L1 l n ((i + 1 : Nat) : Int) := by
  rw [law19_Short_L1, decide_eq_true (by omega)]
  simp only [cond_true, Int.toNat_natCast, inc_eq (show i < 4611686018427387904 by omega), inb_t (show (0 : Int) ≤ (i : Int) by omega) (show (i : Int) < (l.length : Int) by omega), law19_Short_k2, badSh]
  by_cases h1 : 20 ≤ i
  · rw [if_pos h1, decide_eq_true (show (i : Int) ≥ 20 by omega)]; rfl
  rw [if_neg h1, decide_eq_false (show ¬ (i : Int) ≥ 20 by omega)]
  unfold shortP
  by_cases h2 : (l.getD i default).Lengths.length ≤ 12
  · rw [decide_eq_true h2, decide_eq_false (show ¬ (((l.getD i default).Lengths.length : Nat) : Int) > 12 by omega)]
    by_cases h3 : (l.getD i default).Prices.length ≤ 12
    · rw [decide_eq_true h3, decide_eq_false (show ¬ (((l.getD i default).Prices.length : Nat) : Int) > 12 by omega)]
      by_cases h4 : (l.getD i default).Name.size ≤ 100
      · rw [decide_eq_true h4, decide_eq_false (show ¬ (((l.getD i default).Name.size : Nat) : Int) > 100 by omega)]; rfl
      · rw [decide_eq_false h4, decide_eq_true (show (((l.getD i default).Name.size : Nat) : Int) > 100 by omega)]; rfl
    · rw [decide_eq_false h3, decide_eq_true (show (((l.getD i default).Prices.length : Nat) : Int) > 12 by omega)]; rfl
  · rw [decide_eq_false h2, decide_eq_true (show (((l.getD i default).Lengths.length : Nat) : Int) > 12 by omega)]; rfl
theorem Short_long (l : List Product) (h : 20 < l.length) : ∀ (k n i : Nat), i + k = 20 → k < n → law19_Short_L1 l n (i : Int) = some (.inl false)
  | 0, n + 1, i, hi, hn => by
    rw [Short_step l n i (by omega) (by omega), badSh, if_pos (by omega)]
  | k + 1, n + 1, i, hi, hn => by
    rw [Short_step l n i (by omega) (by omega), badSh, if_neg (by omega)]
    cases shortP (l.getD i default) with
    | false => rfl
    | true => exact Short_long l h k n (i + 1) (by omega) (by omega)
def isShort (l : List Product) : Bool := decide (l.length ≤ 20) && l.all shortP
theorem Short_eq (l : List Product) : law19_Short l = some (isShort l) := by
  unfold law19_Short isShort
  by_cases h : 20 < l.length
  · rw [show (0 : Int) = ((0 : Nat) : Int) from rfl, Short_long l h 20 FUEL 0 rfl (by rw [FUEL_eq]; omega), decide_eq_false (by omega)]; rfl
  have L : law19_Short_L1 l FUEL ((0 : Nat) : Int) = some (findN (badSh l) 0 (l.length - 0)) := by
    refine loop_findN l.length (law19_Short_L1 l) _ 0 (by omega) (by omega) (fun n i hi hN => by rw [Short_step l n i hN (by omega)]; cases badSh l i <;> rfl) (fun n => ?_)
    rw [law19_Short_L1, decide_eq_false (by omega)]; rfl
  rw [show ((0 : Nat) : Int) = 0 from rfl] at L
  rw [L, decide_eq_true (by omega), Bool.true_and]
  simp only [Option.bind_some]
  cases hf : findN (badSh l) 0 (l.length - 0) with
  | inl e =>
    obtain ⟨i, a, b, c, d⟩ := findN_some hf
    unfold badSh at c
    rw [if_neg (by omega)] at c
    cases hs : shortP (l.getD i default) with
    | true => rw [hs] at c; cases c
    | false =>
      rw [hs] at c
      cases c
      simp only [Sum.elim_inl]
      congr 1
      symm
      rw [Bool.eq_false_iff]
      intro q
      rw [List.all_eq_true] at q
      rw [q _ (getD_mem' (by omega))] at hs
      cases hs
  | inr u =>
    simp only [Sum.elim_inr]
    congr 1
    symm
    rw [List.all_eq_true]
    intro p hp
    obtain ⟨i, hi, e⟩ := List.getElem_of_mem hp
    have := findN_none.1 hf i (by omega) (by omega)
    unfold badSh at this
    rw [if_neg (by omega), show l.getD i default = p by rw [List.getD_eq_getElem?_getD, List.getElem?_eq_getElem hi, e]; rfl] at this
    cases hs : shortP p with
    | true => rfl
    | false => rw [hs] at this; cases this
end Saw
end Go.SL

namespace Go.SL
namespace Saw

def empS (s : Span) : Bool := decide (s.B ≤ s.A)
def rngS (s : Span) : Bool := (decide (-600 ≤ s.A) && decide (s.A ≤ 600)) && (decide (-600 ≤ s.B) && decide (s.B ≤ 600))
def zeroS (s : Span) : Bool := (s.A == 0) && (s.B == 0)
theorem rngS_iff {s : Span} : rngS s = true ↔ (-600 ≤ s.A ∧ s.A ≤ 600) ∧ (-600 ≤ s.B ∧ s.B ≤ 600) := by unfold rngS; simp
theorem section_isEmpty_eq (s : Span) : section_isEmpty s = some (empS s) := rfl
theorem ref10_empty_eq (s : Span) : ref10_empty s = some (empS s) := rfl
theorem section_inRange_eq (s : Span) : section_inRange s = some (rngS s) := by
  have e : rngS s = (decide (imin s.A s.B ≥ -600) && decide (imax s.A s.B ≤ 600)) := by
    rw [Bool.eq_iff_iff, rngS_iff, Bool.and_eq_true, decide_eq_true_eq, decide_eq_true_eq, ge_iff_le, le_imin, imax_le']
    omega
  unfold section_inRange section_inRange_k1
  rw [e]
  cases decide (imin s.A s.B ≥ -600) <;> rfl
theorem ref10_beyond_eq (n : Int) : ref10_beyond n = some (!(decide (-600 ≤ n) && decide (n ≤ 600))) := by
  unfold ref10_beyond ref10_beyond_k1
  by_cases h1 : n < -600
  · rw [decide_eq_true h1, decide_eq_false (show ¬ -600 ≤ n by omega)]; rfl
  · rw [decide_eq_false h1, decide_eq_true (show -600 ≤ n by omega)]
    by_cases h2 : n > 600
    · rw [decide_eq_true h2, decide_eq_false (show ¬ n ≤ 600 by omega)]; rfl
    · rw [decide_eq_false h2, decide_eq_true (show n ≤ 600 by omega)]; rfl
def bad9 (s : Span) : Option Int := bif rngS s then none else some 9
def bad19 (s : Span) : Option Int := bif empS s && !zeroS s then some 19 else none
def chkRows (s : Section) : Int :=
  match findE bad9 s.Rows with
  | .inl e => e
  | .inr _ =>
    if s.Rows.length = 0 then (if s.Low = 0 then 0 else 19)
    else if empS (s.Rows.getD 0 default) = true ∨ empS (s.Rows.getD (s.Rows.length - 1) default) = true then 19
    else match findE bad19 s.Rows with
      | .inl e => e
      | .inr _ => 0
def chk10 (s : Section) : Int := if 120 < s.Rows.length then 4 else if s.Low < -60 ∨ 60 - (s.Rows.length : Int) < s.Low then 9 else chkRows s
theorem chk_L (s : Section) (hl : s.Rows.length ≤ 120) : section_Check_L2 s FUEL 0 = some (findE bad9 s.Rows) ∧ section_Check_L4 s FUEL 0 = some (findE bad19 s.Rows) ∧ ref10_Check_L2 s FUEL 0 = some (findE bad9 s.Rows) ∧ ref10_Check_L5 s FUEL 0 = some (findE bad19 s.Rows) := by
  have e1 : ∀ (l : List Span) (x : Nat), (l.length : Nat) < 1000 → x < l.length → decide ((x : Int) < ((l.length : Nat) : Int)) = true ∧ inb (x : Int) l.length = true ∧ w64 ((x : Int) + 1) = ((x + 1 : Nat) : Int) := fun l x h hx => ⟨decide_eq_true (by omega), inb_t (by omega) (by omega), inc_eq (by omega)⟩
  refine ⟨loop_find s.Rows (section_Check_L2 s) bad9 (by omega) (fun n x hx => ?_) (fun n => ?_), loop_find s.Rows (section_Check_L4 s) bad19 (by omega) (fun n x hx => ?_) (fun n => ?_), loop_find s.Rows (ref10_Check_L2 s) bad9 (by omega) (fun n x hx => ?_) (fun n => ?_), loop_find s.Rows (ref10_Check_L5 s) bad19 (by omega) (fun n x hx => ?_) (fun n => ?_)⟩
  · obtain ⟨a1, a2, a3⟩ := e1 s.Rows x (by omega) hx
    rw [section_Check_L2]
    simp only [a1, a2, a3, cond_true, Int.toNat_natCast, section_inRange_eq, Option.bind_some, bad9]
    cases rngS (s.Rows.getD x default) <;> rfl
  · unfold section_Check_L2; simp
  · obtain ⟨a1, a2, a3⟩ := e1 s.Rows x (by omega) hx
    rw [section_Check_L4]
    simp only [section_Check_k5, a1, a2, a3, cond_true, Int.toNat_natCast, section_isEmpty_eq, Option.bind_some, bad19, zeroS, Bool.and_true]
    cases empS (s.Rows.getD x default) <;> cases ((s.Rows.getD x default).A == 0 && (s.Rows.getD x default).B == 0) <;> rfl
  · unfold section_Check_L4; simp
  · obtain ⟨a1, a2, a3⟩ := e1 s.Rows x (by omega) hx
    rw [ref10_Check_L2]
    simp only [ref10_Check_k3, a1, a2, a3, cond_true, Int.toNat_natCast, ref10_beyond_eq, Option.bind_some, bad9, rngS]
    cases (decide (-600 ≤ (s.Rows.getD x default).A) && decide ((s.Rows.getD x default).A ≤ 600)) <;> cases (decide (-600 ≤ (s.Rows.getD x default).B) && decide ((s.Rows.getD x default).B ≤ 600)) <;> rfl
  · unfold ref10_Check_L2; simp
  · obtain ⟨a1, a2, a3⟩ := e1 s.Rows x (by omega) hx
    rw [ref10_Check_L5]
    simp only [ref10_Check_k6, a1, a2, a3, cond_true, Int.toNat_natCast, ref10_empty_eq, Option.bind_some, bad19, zeroS, Bool.and_true]
    cases empS (s.Rows.getD x default) <;> cases ((s.Rows.getD x default).A == 0 && (s.Rows.getD x default).B == 0) <;> rfl
  · unfold ref10_Check_L5; simp
theorem chk10_eq (s : Section) : section_Check s = some (chk10 s) ∧ ref10_Check s = some (chk10 s) := by
  unfold section_Check ref10_Check chk10
  by_cases h : 120 < s.Rows.length
  · rw [decide_eq_true (show ((s.Rows.length : Nat) : Int) > 120 by omega), if_pos h]; exact ⟨rfl, rfl⟩
  rw [decide_eq_false (show ¬ ((s.Rows.length : Nat) : Int) > 120 by omega), if_neg h, w64_id (by omega) (by omega)]
  simp only [cond_false]
  obtain ⟨l1, l2, l3, l4⟩ := chk_L s (by omega)
  by_cases h1 : s.Low < -60
  · rw [decide_eq_true h1, if_pos (.inl h1)]; exact ⟨rfl, rfl⟩
  rw [decide_eq_false h1]
  by_cases h2 : 60 - (s.Rows.length : Int) < s.Low
  · rw [decide_eq_true (show s.Low > _ from h2), if_pos (.inr h2)]; exact ⟨rfl, rfl⟩
  rw [decide_eq_false (show ¬ s.Low > _ from h2), if_neg (by omega)]
  unfold section_Check_k1 ref10_Check_k1 section_Check_k3 ref10_Check_k4 chkRows
  simp only [cond_false, l1, l2, l3, l4, Option.bind_some, section_isEmpty_eq, ref10_empty_eq]
  cases findE bad9 s.Rows with
  | inl e => exact ⟨rfl, rfl⟩
  | inr u =>
    simp only [Sum.elim_inr]
    by_cases h0 : s.Rows.length = 0
    · rw [if_pos h0, h0]
      by_cases hw : s.Low = 0
      · rw [if_pos hw, hw]; exact ⟨rfl, rfl⟩
      · rw [if_neg hw]
        have : (s.Low != 0) = true := by simpa using hw
        simp [this]
    · rw [if_neg h0]
      have e0 : (((s.Rows.length : Nat) : Int) == 0) = false := by rw [beq_eq_false_iff_ne]; omega
      have e1 : w64 (((s.Rows.length : Nat) : Int) - 1) = ((s.Rows.length - 1 : Nat) : Int) := by rw [w64_id (by omega) (by omega)]; omega
      rw [e0, inb_t (by omega) (by omega), e1, inb_t (by omega) (by omega)]
      simp only [cond_false, cond_true, Int.toNat_zero, Int.toNat_natCast]
      cases hf : empS (s.Rows.getD 0 default) with
      | true => simp
      | false => cases hg : empS (s.Rows.getD (s.Rows.length - 1) default) with
        | true => simp
        | false =>
          simp only [cond_false, Bool.false_eq_true, or_self, if_false]
          cases findE bad19 s.Rows <;> exact ⟨rfl, rfl⟩
def nilS : Section := ⟨0, []⟩
def val10 (s : Section) : Section := if chk10 s = 0 then s else nilS
theorem val10_eq (s : Section) : section_valid s = some (val10 s) := by
  unfold section_valid val10
  rw [(chk10_eq s).1]
  simp only [Option.bind_some]
  by_cases h : chk10 s = 0
  · rw [h]; rfl
  · have : (chk10 s != 0) = true := by simpa using h
    rw [this, if_neg h]; rfl
def nrm (x : Span) : Span := bif empS x then ⟨0, 0⟩ else x
theorem span_default : (default : Span) = ⟨0, 0⟩ := rfl
theorem nrm_default : nrm default = ⟨0, 0⟩ := rfl
theorem nrm_nrm (x : Span) : nrm (nrm x) = nrm x := by
  unfold nrm
  cases h : empS x with
  | true => rfl
  | false => simp [h]
theorem emp_nrm (x : Span) : empS (nrm x) = empS x := by
  unfold nrm
  cases h : empS x with
  | true => rfl
  | false => simpa using h
theorem nrm_ne {x : Span} (h : empS x = false) : nrm x = x := by unfold nrm; rw [h]; rfl
theorem nrm_emp {x : Span} (h : empS x = true) : nrm x = ⟨0, 0⟩ := by unfold nrm; rw [h]; rfl
/-- The span of a section in a row. -/
def row (s : Section) (r : Int) : Span := if r < s.Low then ⟨0, 0⟩ else s.Rows.getD (r - s.Low).toNat default
/-- Neither end is empty. -/
structure Trim (s : Section) : Prop where
  nil : s.Rows = [] → s.Low = 0
  first : s.Rows ≠ [] → empS (s.Rows.getD 0 default) = false
  last : s.Rows ≠ [] → empS (s.Rows.getD (s.Rows.length - 1) default) = false
theorem getD_ge {α : Type} [Inhabited α] {l : List α} {i : Nat} (h : l.length ≤ i) : l.getD i default = default := by
  rw [List.getD_eq_getElem?_getD, List.getElem?_eq_none h]; rfl
theorem emp_default : empS (default : Span) = true := rfl
/-- Where a row is not empty. -/
theorem row_ne {s : Section} {r : Int} (h : empS (row s r) = false) : s.Low ≤ r ∧ r < s.Low + s.Rows.length := by
  unfold row at h
  split at h
  · exact absurd h (by decide)
  · refine ⟨by omega, Classical.byContradiction fun hn => ?_⟩
    rw [getD_ge (by omega)] at h
    exact absurd h (by decide)
theorem row_at {s : Section} {i : Nat} : row s (s.Low + i) = s.Rows.getD i default := by
  unfold row
  rw [if_neg (by omega)]
  congr 1
  omega
theorem sec_ext {s t : Section} (hs : Trim s) (ht : Trim t) (h : ∀ r, row s r = row t r) : s = t := by
  have one : ∀ {s t : Section}, Trim s → (∀ r, row s r = row t r) → s.Rows ≠ [] → t.Low ≤ s.Low ∧ s.Low + s.Rows.length ≤ t.Low + t.Rows.length := by
    intro s t hs h hne
    have hl : 0 < s.Rows.length := List.length_pos_iff.2 hne
    have k1 := row_at (s := s) (i := 0)
    have k2 := row_at (s := s) (i := s.Rows.length - 1)
    have f1 := hs.first hne
    have f2 := hs.last hne
    rw [← k1, h] at f1
    rw [← k2, h] at f2
    have g1 := row_ne f1
    have g2 := row_ne f2
    omega
  have key : s.Low = t.Low ∧ s.Rows.length = t.Rows.length := by
    by_cases h1 : s.Rows = []
    · by_cases h2 : t.Rows = []
      · exact ⟨by rw [hs.nil h1, ht.nil h2], by rw [h1, h2]⟩
      · have := one ht (fun r => (h r).symm) h2
        have hl : 0 < t.Rows.length := List.length_pos_iff.2 h2
        rw [h1] at this
        simp only [List.length_nil] at this
        omega
    · by_cases h2 : t.Rows = []
      · have := one hs h h1
        have hl : 0 < s.Rows.length := List.length_pos_iff.2 h1
        rw [h2] at this
        simp only [List.length_nil] at this
        omega
      · have a1 := one hs h h1
        have a2 := one ht (fun r => (h r).symm) h2
        omega
  obtain ⟨lo, rs⟩ := s
  obtain ⟨lo', rs'⟩ := t
  simp only at key
  obtain ⟨rfl, hl⟩ := key
  congr 1
  refine ext_getD hl (fun j hj => ?_)
  have := h (lo + j)
  have e1 := row_at (s := ⟨lo, rs⟩) (i := j)
  have e2 := row_at (s := ⟨lo, rs'⟩) (i := j)
  simp only at e1 e2
  rw [e1, e2] at this
  exact this
/-- A valid section. -/
structure VS (s : Section) : Prop extends Trim s where
  len : s.Rows.length ≤ 120
  low : -60 ≤ s.Low
  high : s.Low + s.Rows.length ≤ 60
  rng : ∀ x ∈ s.Rows, rngS x = true
  zero : ∀ x ∈ s.Rows, empS x = true → x = ⟨0, 0⟩
theorem bad9_none {x : Span} : bad9 x = none ↔ rngS x = true := by unfold bad9; cases rngS x <;> simp
theorem zeroS_iff {x : Span} : zeroS x = true ↔ x = ⟨0, 0⟩ := by unfold zeroS; cases x; simp
theorem bad19_none {x : Span} : bad19 x = none ↔ (empS x = true → x = ⟨0, 0⟩) := by
  unfold bad19
  cases h : empS x with
  | false => simp
  | true => cases hz : zeroS x with
    | true => simp [zeroS_iff.1 hz]
    | false => simp; intro e; rw [zeroS_iff.2 e] at hz; cases hz
theorem findE_val {ε α : Type} {bad : α → Option ε} {l : List α} {e : ε} (h : findE bad l = .inl e) : ∃ a ∈ l, bad a = some e := by
  induction l with
  | nil => cases h
  | cons a l ih =>
    unfold findE at h
    cases hb : bad a with
    | some e' => rw [hb] at h; cases h; exact ⟨a, by simp, hb⟩
    | none => rw [hb] at h; obtain ⟨x, hx, hx'⟩ := ih h; exact ⟨x, List.mem_cons_of_mem _ hx, hx'⟩
theorem chk10_zero (s : Section) : chk10 s = 0 ↔ VS s := by
  unfold chk10
  by_cases h : 120 < s.Rows.length
  · rw [if_pos h]; exact ⟨fun h => absurd h (by decide), fun hv => by have := hv.len; omega⟩
  rw [if_neg h]
  by_cases h1 : s.Low < -60 ∨ 60 - (s.Rows.length : Int) < s.Low
  · rw [if_pos h1]; exact ⟨fun h => absurd h (by decide), fun hv => by have := hv.low; have := hv.high; omega⟩
  rw [if_neg h1]
  unfold chkRows
  cases h9 : findE bad9 s.Rows with
  | inl e =>
    obtain ⟨a, ha, hb⟩ := findE_val h9
    have e9 : e = 9 ∧ rngS a = false := by unfold bad9 at hb; cases hr : rngS a <;> rw [hr] at hb <;> simp at hb; exact ⟨hb.symm, rfl⟩
    simp only
    refine ⟨fun h => by omega, fun hv => ?_⟩
    have := hv.rng a ha
    rw [e9.2] at this; cases this
  | inr u =>
    have hr : ∀ x ∈ s.Rows, rngS x = true := fun x hx => bad9_none.1 (findE_none.1 h9 x hx)
    simp only
    by_cases h0 : s.Rows.length = 0
    · have en : s.Rows = [] := List.length_eq_zero_iff.1 h0
      rw [if_pos h0]
      by_cases hw : s.Low = 0
      · rw [if_pos hw]
        exact ⟨fun _ => ⟨⟨fun _ => hw, fun h => absurd en h, fun h => absurd en h⟩, by omega, by omega, by omega, hr, fun x hx => by rw [en] at hx; cases hx⟩, fun _ => rfl⟩
      · rw [if_neg hw]
        exact ⟨fun h => absurd h (by decide), fun hv => absurd (hv.nil en) hw⟩
    · rw [if_neg h0]
      have hne : s.Rows ≠ [] := fun e => h0 (by rw [e]; rfl)
      by_cases hf : empS (s.Rows.getD 0 default) = true ∨ empS (s.Rows.getD (s.Rows.length - 1) default) = true
      · rw [if_pos hf]
        refine ⟨fun h => absurd h (by decide), fun hv => ?_⟩
        rcases hf with hf | hf
        · rw [hv.first hne] at hf; cases hf
        · rw [hv.last hne] at hf; cases hf
      · rw [if_neg hf]
        have f1 : empS (s.Rows.getD 0 default) = false := by simpa using fun h => hf (.inl h)
        have f2 : empS (s.Rows.getD (s.Rows.length - 1) default) = false := by simpa using fun h => hf (.inr h)
        cases h19 : findE bad19 s.Rows with
        | inl e =>
          obtain ⟨a, ha, hb⟩ := findE_val h19
          simp only
          have e19 : e = 19 := by unfold bad19 at hb; cases hr : (empS a && !zeroS a) <;> rw [hr] at hb <;> simp at hb; exact hb.symm
          refine ⟨fun h => by omega, fun hv => ?_⟩
          have := bad19_none.2 (hv.zero a ha)
          rw [this] at hb; cases hb
        | inr u' =>
          exact ⟨fun _ => ⟨⟨fun e => absurd e hne, fun _ => f1, fun _ => f2⟩, by omega, by omega, by omega, hr, fun x hx => bad19_none.1 (findE_none.1 h19 x hx)⟩, fun _ => rfl⟩
theorem VS_nil : VS nilS := (chk10_zero nilS).1 rfl
theorem val10_VS (s : Section) : VS (val10 s) := by
  unfold val10
  split
  · rename_i h; exact (chk10_zero s).1 h
  · exact VS_nil
theorem val10_of {s : Section} (h : VS s) : val10 s = s := by unfold val10; rw [if_pos ((chk10_zero s).2 h)]
theorem VS.row_rng {s : Section} (h : VS s) (r : Int) : rngS (row s r) = true := by
  unfold row
  split
  · rfl
  · by_cases hi : (r - s.Low).toNat < s.Rows.length
    · exact h.rng _ (getD_mem' hi)
    · rw [getD_ge (by omega)]; rfl
theorem VS.row_nrm {s : Section} (h : VS s) (r : Int) : nrm (row s r) = row s r := by
  unfold row
  split
  · rfl
  · by_cases hi : (r - s.Low).toNat < s.Rows.length
    · cases he : empS (s.Rows.getD (r - s.Low).toNat default) with
      | true => rw [h.zero _ (getD_mem' hi) he]; rfl
      | false => exact nrm_ne he
    · rw [getD_ge (by omega)]; rfl
theorem VS.row_out {s : Section} (h : VS s) {r : Int} (hr : r < -60 ∨ 60 ≤ r) : row s r = ⟨0, 0⟩ := by
  unfold row
  split
  · rfl
  · rw [getD_ge (by have := h.low; have := h.high; omega)]; rfl
/-- A trimmed section all of whose rows are such. -/
theorem VS_of {s : Section} (ht : Trim s) (f : Int → Span) (hf : ∀ r, row s r = if -60 ≤ r ∧ r < 60 then nrm (f r) else ⟨0, 0⟩) (hr : ∀ r, -60 ≤ r → r < 60 → rngS (nrm (f r)) = true) : VS s := by
  have bnd : s.Rows ≠ [] → -60 ≤ s.Low ∧ s.Low + s.Rows.length ≤ 60 := fun hne => by
    have hl : 0 < s.Rows.length := List.length_pos_iff.2 hne
    have k1 := row_at (s := s) (i := 0)
    have k2 := row_at (s := s) (i := s.Rows.length - 1)
    have f1 := ht.first hne
    have f2 := ht.last hne
    rw [← k1, hf] at f1
    rw [← k2, hf] at f2
    split at f1
    · split at f2
      · omega
      · exact absurd f2 (by decide)
    · exact absurd f1 (by decide)
  have el : ∀ x ∈ s.Rows, ∃ r, -60 ≤ r ∧ r < 60 ∧ x = nrm (f r) := fun x hx => by
    obtain ⟨i, hi, e⟩ := List.mem_iff_getElem.1 hx
    have hne : s.Rows ≠ [] := List.ne_nil_of_mem hx
    have b := bnd hne
    have k := row_at (s := s) (i := i)
    rw [hf, if_pos (by omega)] at k
    refine ⟨s.Low + i, by omega, by omega, ?_⟩
    rw [k, List.getD_eq_getElem?_getD, List.getElem?_eq_getElem hi, ← e]; rfl
  refine ⟨ht, ?_, ?_, ?_, fun x hx => ?_, fun x hx he => ?_⟩
  · by_cases hne : s.Rows = []
    · rw [hne]; simp
    · have := bnd hne; omega
  · by_cases hne : s.Rows = []
    · rw [ht.nil hne]; decide
    · have := bnd hne; omega
  · by_cases hne : s.Rows = []
    · rw [ht.nil hne, hne]; decide
    · have := bnd hne; omega
  · obtain ⟨r, h1, h2, rfl⟩ := el x hx; exact hr r h1 h2
  · obtain ⟨r, h1, h2, rfl⟩ := el x hx
    rw [emp_nrm] at he
    exact nrm_emp he
def mxS (x y : Span) : Span := ⟨imax x.A y.A, imin x.B y.B⟩
theorem span_Meet_eq (x y : Span) : span_Meet x y = some (nrm (mxS x y)) := by
  unfold span_Meet nrm mxS empS
  simp only [ge_iff_le]
  cases decide (imin x.B y.B ≤ imax x.A y.A) <;> rfl
def lenS (x : Span) : Int := bif empS x then 0 else x.B - x.A
theorem u64_id {n : Int} (h1 : 0 ≤ n) (h2 : n < 18446744073709551616) : IntKind.u64.wrap n = n := by
  unfold IntKind.wrap
  simp only [IntKind.bits, IntKind.signed, Bool.false_and]
  simp
  omega
theorem u64_eq (n : Int) : IntKind.u64.wrap n = n % 18446744073709551616 := by
  unfold IntKind.wrap
  simp only [IntKind.bits, IntKind.signed, Bool.false_and]
  simp
theorem span_Len_eq {x : Span} (h : x.B - x.A ≤ 9223372036854775807) : span_Len x = some (lenS x) := by
  unfold span_Len span_size span_limited lenS empS
  by_cases he : x.B ≤ x.A
  · rw [decide_eq_true (show x.A ≥ x.B from he)]; rfl
  · rw [decide_eq_false (show ¬ x.A ≥ x.B from he), u64_eq, u64_eq, u64_eq]
    simp only [cond_false, Option.bind_some]
    rw [show (x.B % 18446744073709551616 - x.A % 18446744073709551616) % 18446744073709551616 = x.B - x.A by omega]
    have : imin (x.B - x.A) 9223372036854775807 = x.B - x.A := by have := imin_or (x.B - x.A) 9223372036854775807; omega
    rw [this, w64_id (by omega) (by omega)]
theorem len_nrm (x : Span) : lenS (nrm x) = lenS x := by
  unfold lenS
  rw [emp_nrm]
  cases h : empS x with
  | true => rfl
  | false => rw [nrm_ne h]
theorem len_nn (x : Span) : 0 ≤ lenS x := by unfold lenS empS; by_cases h : x.B ≤ x.A <;> simp [h]; omega
/-- The length of the common part. -/
def ml (x y : Span) : Int := lenS (mxS x y)
theorem ml_b {x : Span} (y : Span) (h : rngS x = true) : 0 ≤ ml x y ∧ ml x y ≤ 1200 ∧ ml x y ≤ lenS x := by
  rw [rngS_iff] at h
  have a1 := imax_or x.A y.A
  have a2 := imin_or x.B y.B
  unfold ml lenS empS mxS
  simp only
  by_cases c : imin x.B y.B ≤ imax x.A y.A
  · rw [decide_eq_true c]
    by_cases c2 : x.B ≤ x.A
    · rw [decide_eq_true c2]; simp
    · rw [decide_eq_false c2]; simp; omega
  · rw [decide_eq_false c, decide_eq_false (show ¬ x.B ≤ x.A by omega)]
    simp only [cond_false]
    omega
theorem mx_b {x y : Span} (h : rngS x = true) : (nrm (mxS x y)).B - (nrm (mxS x y)).A ≤ 1200 := by
  cases he : empS (mxS x y) with
  | true => rw [nrm_emp he]; decide
  | false =>
    rw [nrm_ne he]
    rw [rngS_iff] at h
    have a1 := imax_or x.A y.A
    have a2 := imin_or x.B y.B
    unfold mxS
    simp only
    omega
theorem ml_eq {x : Span} (y : Span) (h : rngS x = true) : span_Len (nrm (mxS x y)) = some (ml x y) := by
  have := mx_b (y := y) h
  rw [span_Len_eq (by omega), len_nrm]; rfl
/-- The heights of a row. -/
def hgt (r : Int) : Span := ⟨10 * r, 10 * (r + 1)⟩
theorem hgt_rng {r : Int} (h1 : -60 ≤ r) (h2 : r < 60) : rngS (hgt r) = true := by rw [rngS_iff]; unfold hgt; simp only; omega
theorem hgt_len (r : Int) : lenS (hgt r) = 10 := by unfold lenS empS hgt; simp only; rw [decide_eq_false (by omega)]; simp only [cond_false]; omega
theorem hgt_eq {r : Int} (h1 : -60 ≤ r) (h2 : r < 60) : section_heights r (w64 (r + 1)) = some (hgt r) := by
  unfold section_heights hgt
  rw [w64_id (n := r + 1) (by omega) (by omega), w64_id (by omega) (by omega), w64_id (by omega) (by omega)]
/-- The sum over all rows. -/
def sumR (f : Int → Int) : Int := sumN 120 (fun j => f ((j : Int) - 60))
theorem sumR_congr {f g : Int → Int} (h : ∀ r, -60 ≤ r → r < 60 → f r = g r) : sumR f = sumR g := sumN_congr (fun i hi => h _ (by omega) (by omega))
theorem sum_rows {s : Section} (h : VS s) (F : Int → Span → Int) (h0 : ∀ r, F r ⟨0, 0⟩ = 0) : sumN s.Rows.length (fun i => F (s.Low + i) (s.Rows.getD i default)) = sumR (fun r => F r (row s r)) := by
  have b1 := h.low
  have b2 := h.high
  have b3 := h.len
  unfold sumR
  have e : 120 = (s.Low + 60).toNat + (s.Rows.length + (120 - (s.Low + 60).toNat - s.Rows.length)) := by omega
  rw [e, sumN_split, sumN_split]
  have z1 : sumN (s.Low + 60).toNat (fun j => F ((j : Int) - 60) (row s ((j : Int) - 60))) = 0 := sumN_zero (fun i hi => by
    have : row s ((i : Int) - 60) = ⟨0, 0⟩ := by unfold row; rw [if_pos (by omega)]
    rw [this, h0])
  have z2 : sumN (120 - (s.Low + 60).toNat - s.Rows.length) (fun i => F ((((s.Low + 60).toNat + (s.Rows.length + i) : Nat) : Int) - 60) (row s ((((s.Low + 60).toNat + (s.Rows.length + i) : Nat) : Int) - 60))) = 0 := sumN_zero (fun i hi => by
    have : row s ((((s.Low + 60).toNat + (s.Rows.length + i) : Nat) : Int) - 60) = ⟨0, 0⟩ := by
      unfold row; rw [if_neg (by omega), getD_ge (by omega)]; rfl
    rw [this, h0])
  have z3 : sumN s.Rows.length (fun i => F ((((s.Low + 60).toNat + i : Nat) : Int) - 60) (row s ((((s.Low + 60).toNat + i : Nat) : Int) - 60))) = sumN s.Rows.length (fun i => F (s.Low + i) (s.Rows.getD i default)) := sumN_congr (fun i hi => by
    have : (((s.Low + 60).toNat + i : Nat) : Int) - 60 = s.Low + i := by omega
    rw [this, row_at])
  rw [z1, z3]
  rw [z2]
  omega
def areaS (s : Section) : Int := 10 * sumR (fun r => lenS (row s r))
def withinS (s : Section) (x y : Span) : Int := sumR (fun r => ml (row s r) x * ml (hgt r) y)
theorem VS.len_b {s : Section} (h : VS s) {i : Nat} (hi : i < s.Rows.length) : 0 ≤ lenS (s.Rows.getD i default) ∧ lenS (s.Rows.getD i default) ≤ 1200 ∧ (s.Rows.getD i default).B - (s.Rows.getD i default).A = lenS (s.Rows.getD i default) := by
  have m := getD_mem' hi
  have r := rngS_iff.1 (h.rng _ m)
  have z := h.zero _ m
  have e : lenS (s.Rows.getD i default) = bif empS (s.Rows.getD i default) then 0 else (s.Rows.getD i default).B - (s.Rows.getD i default).A := rfl
  cases he : empS (s.Rows.getD i default) with
  | true => rw [z he]; decide
  | false =>
    rw [he] at e
    simp only [cond_false] at e
    have hlt : ¬ (s.Rows.getD i default).B ≤ (s.Rows.getD i default).A := of_decide_eq_false he
    omega
theorem Within_eq (s : Section) (R : Rect) : section_Within s R = some (withinS (val10 s) R.X R.Y) := by
  have h := val10_VS s
  unfold section_Within
  rw [val10_eq s]
  simp only [Option.bind_some]
  generalize val10 s = t at *
  have b := h.len
  have b1 := h.low
  have b2 := h.high
  have pb : ∀ x, x < t.Rows.length → 0 ≤ ml (t.Rows.getD x default) R.X * ml (hgt (t.Low + x)) R.Y ∧ ml (t.Rows.getD x default) R.X * ml (hgt (t.Low + x)) R.Y ≤ 1440000 := fun x hx => by
    have m1 := ml_b R.X (h.rng _ (getD_mem' hx))
    have m2 := ml_b R.Y (hgt_rng (r := t.Low + x) (by omega) (by omega))
    have := mul_bound (a := ml (t.Rows.getD x default) R.X) (b := ml (hgt (t.Low + x)) R.Y) (m := 1200) (n := 1200) (by omega) (by omega) (by omega) (by omega) (by omega) (by omega)
    exact ⟨Int.mul_nonneg m1.1 m2.1, by omega⟩
  have k1 := loop_fold t.Rows (fun n (a : Int) x => section_Within_L1 R t n a x) (fun x => (x : Int)) (fun x a s => s + ml a R.X * ml (hgt (t.Low + x)) R.Y) (fun s => s) (fun x s => 0 ≤ s ∧ s ≤ 1440000 * (x : Int)) (by omega)
    (fun n x a hx hi => by
      have p := pb x hx
      refine ⟨?_, by omega⟩
      rw [section_Within_L1, decide_eq_true (show (x : Int) < _ by omega), inb_t (by omega) (by omega), inc_eq (by omega), w64_id (n := t.Low + x) (by omega) (by omega), hgt_eq (r := t.Low + x) (by omega) (by omega)]
      simp only [cond_true, Int.toNat_natCast, Option.bind_some, span_Meet_eq]
      rw [ml_eq R.X (h.rng _ (getD_mem' hx)), ml_eq R.Y (hgt_rng (r := t.Low + x) (by omega) (by omega))]
      simp only [Option.bind_some]
      rw [w64_id (n := _ * _) (by omega) (by omega), w64_id (by omega) (by omega)])
    (fun n a _ => by rw [section_Within_L1]; simp) (i := 0) rfl 0 (by omega)
  rw [foldi_sum (fun x a => ml a R.X * ml (hgt (t.Low + x)) R.Y)] at k1
  have e := sum_rows h (fun r a => ml a R.X * ml (hgt r) R.Y) (fun r => by
    have : ml ⟨0, 0⟩ R.X = 0 := by have := ml_b (x := ⟨0, 0⟩) R.X rfl; have e : lenS ⟨0, 0⟩ = 0 := rfl; omega
    rw [this]; simp)
  simp only [Nat.zero_add, Int.zero_add] at k1
  rw [e] at k1
  rw [k1.1]
  rfl
theorem ml_def (x y : Span) : ml x y = if imin x.B y.B ≤ imax x.A y.A then 0 else imin x.B y.B - imax x.A y.A := by
  unfold ml lenS empS mxS
  simp only
  by_cases c : imin x.B y.B ≤ imax x.A y.A
  · rw [decide_eq_true c, if_pos c]; rfl
  · rw [decide_eq_false c, if_neg c]; rfl
theorem ml_nn (x y : Span) : 0 ≤ ml x y := len_nn _
theorem len_def (x : Span) : lenS x = if x.B ≤ x.A then 0 else x.B - x.A := by
  unfold lenS empS
  by_cases c : x.B ≤ x.A
  · rw [decide_eq_true c, if_pos c]; rfl
  · rw [decide_eq_false c, if_neg c]; rfl
theorem ml_add (x : Span) {A m B : Int} (h1 : A ≤ m) (h2 : m ≤ B) : ml x ⟨A, m⟩ + ml x ⟨m, B⟩ = ml x ⟨A, B⟩ := by
  have a1 := imin_or x.B m
  have a2 := imin_or x.B B
  have a3 := imax_or x.A A
  have a4 := imax_or x.A m
  simp only [ml_def]
  split <;> split <;> split <;> omega
theorem ml_le (x y : Span) : ml x y ≤ lenS x := by
  have a2 := imin_or x.B y.B
  have a3 := imax_or x.A y.A
  rw [ml_def, len_def]
  split <;> split <;> omega
theorem ml_whole {x y : Span} (h1 : y.A ≤ x.A) (h2 : x.B ≤ y.B) : ml x y = lenS x := by
  have a2 := imin_or x.B y.B
  have a3 := imax_or x.A y.A
  rw [ml_def, len_def]
  split <;> split <;> omega
theorem ml_emp {x : Span} (y : Span) (h : empS x = true) : ml x y = 0 := by
  have := ml_le x y
  have := ml_nn x y
  have e : lenS x = 0 := by unfold lenS; rw [h]; rfl
  omega
theorem ml_nrm (x y : Span) : ml (nrm x) y = ml x y := by
  cases h : empS x with
  | true => rw [nrm_emp h, ml_emp y h, ml_emp y rfl]
  | false => rw [nrm_ne h]
theorem area_sum (s : Section) : areaS s = sumR (fun r => 10 * lenS (row s r)) := (sumN_mul 120 10 _).symm
theorem sumR_le {f g : Int → Int} (h : ∀ r, -60 ≤ r → r < 60 → f r ≤ g r) : sumR f ≤ sumR g := sumN_le (fun i hi => h _ (by omega) (by omega))
theorem sumR_add (f g : Int → Int) : sumR (fun r => f r + g r) = sumR f + sumR g := sumN_add 120 _ _
theorem sumR_zero : sumR (fun _ => 0) = 0 := sumN_zero (fun _ _ => rfl)
theorem within_nn (s : Section) (x y : Span) : 0 ≤ withinS s x y := by
  have := sumR_le (f := fun _ => 0) (g := fun r => ml (row s r) x * ml (hgt r) y) (fun r _ _ => Int.mul_nonneg (ml_nn _ _) (ml_nn _ _))
  rw [sumR_zero] at this
  exact this
theorem within_le (s : Section) (x y : Span) : withinS s x y ≤ areaS s := by
  rw [area_sum]
  refine sumR_le (fun r _ _ => ?_)
  have h1 := ml_le (row s r) x
  have h2 := ml_le (hgt r) y
  rw [hgt_len] at h2
  have a := Int.mul_le_mul_of_nonneg_left h2 (ml_nn (row s r) x)
  have b := Int.mul_le_mul_of_nonneg_right h1 (show (0 : Int) ≤ 10 by decide)
  rw [Int.mul_comm 10]
  exact Int.le_trans a b
theorem area_b {s : Section} (h : VS s) : 0 ≤ areaS s ∧ areaS s ≤ 1440000 := by
  constructor
  · exact Int.le_trans (within_nn s ⟨0, 0⟩ ⟨0, 0⟩) (within_le s _ _)
  · rw [area_sum]
    refine Int.le_trans (sumR_le (g := fun _ => 12000) (fun r _ _ => ?_)) (by unfold sumR; rw [sumN_const]; omega)
    have hr := rngS_iff.1 (h.row_rng r)
    rw [len_def]
    split <;> omega
theorem within_four (s : Section) {A m B C n D : Int} (h1 : A ≤ m) (h2 : m ≤ B) (h3 : C ≤ n) (h4 : n ≤ D) :
    withinS s ⟨A, m⟩ ⟨C, n⟩ + withinS s ⟨m, B⟩ ⟨C, n⟩ + withinS s ⟨A, m⟩ ⟨n, D⟩ + withinS s ⟨m, B⟩ ⟨n, D⟩ = withinS s ⟨A, B⟩ ⟨C, D⟩ := by
  unfold withinS
  rw [← sumR_add, ← sumR_add, ← sumR_add]
  refine sumR_congr (fun r _ _ => ?_)
  rw [← ml_add (row s r) h1 h2, ← ml_add (hgt r) h3 h4, Int.add_mul, Int.mul_add, Int.mul_add]
  omega
def shS (dx : Int) (x : Span) : Span := bif empS x then x else ⟨x.A + dx, x.B + dx⟩
def shiftS (s : Section) (dx k : Int) : Section := if s.Rows = [] ∨ dx < -1200 ∨ 1200 < dx ∨ k < -120 ∨ 120 < k then nilS else val10 ⟨s.Low + k, s.Rows.map (shS dx)⟩
theorem shift_loop {s : Section} (h : VS s) {dx : Int} (h1 : -1200 ≤ dx) (h2 : dx ≤ 1200) : section_Shift_L2 dx s FUEL 0 s.Rows = some (s.Rows.map (shS dx)) := by
  have b := h.len
  · have k := loop_fold s.Rows (fun n (l : List Span) x => section_Shift_L2 dx s n x l) (fun x => (x : Int)) (fun x a l => bif empS a then l else l.set x (shS dx a)) (fun l => l)
      (fun x l => l.length = s.Rows.length ∧ ∀ j, j < s.Rows.length → l.getD j default = if j < x then shS dx (s.Rows.getD j default) else s.Rows.getD j default) (by omega)
      (fun n x l hx hi => by
        obtain ⟨i1, i2⟩ := hi
        have hr := rngS_iff.1 (h.rng _ (getD_mem' hx))
        constructor
        · rw [section_Shift_L2, decide_eq_true (show (x : Int) < _ by omega), inb_t (by omega) (by omega)]
          simp only [cond_true, Int.toNat_natCast, section_isEmpty_eq, Option.bind_some, section_Shift_k3, inc_eq (show x < 4611686018427387904 by omega)]
          rw [inb_t (by omega) (by omega), w64_id (by omega) (by omega), w64_id (by omega) (by omega)]
          unfold shS
          cases empS (s.Rows.getD x default) <;> rfl
        · cases he : empS (s.Rows.getD x default) with
          | true =>
            refine ⟨i1, fun j hj => ?_⟩
            simp only [cond_true]
            rw [i2 j hj]
            by_cases c1 : j < x
            · rw [if_pos c1, if_pos (by omega)]
            · rw [if_neg c1]
              by_cases c2 : j = x
              · subst c2; rw [if_pos (by omega)]; unfold shS; rw [he]; rfl
              · rw [if_neg (by omega)]
          | false =>
            simp only [cond_false]
            refine ⟨by simpa using i1, fun j hj => ?_⟩
            by_cases c2 : j = x
            · subst c2; rw [if_pos (by omega), getD_set_eq _ (by omega)]
            · rw [getD_set_ne _ (fun e => c2 e.symm), i2 j hj]
              by_cases c1 : j < x
              · rw [if_pos c1, if_pos (by omega)]
              · rw [if_neg c1, if_neg (by omega)])
      (fun n l _ => by rw [section_Shift_L2]; simp) (i := 0) rfl s.Rows ⟨rfl, fun j hj => by rw [if_neg (by omega)]⟩
    obtain ⟨k1, k2, k3⟩ := k
    rw [k1]
    congr 1
    refine ext_getD (by simpa using k2) (fun j hj => ?_)
    rw [k2] at hj
    rw [k3 j hj, if_pos hj, getD_map _ _ hj]
theorem Shift_eq (s : Section) {dx : Int} (h1 : -1200 ≤ dx) (h2 : dx ≤ 1200) : section_Shift s dx 0 = some (shiftS (val10 s) dx 0) := by
  have h := val10_VS s
  have b1 := h.low
  have b2 := h.high
  have b3 := h.len
  unfold section_Shift
  rw [val10_eq s]
  simp only [Option.bind_some]
  generalize val10 s = t at *
  by_cases h0 : t.Rows = []
  · have e : shiftS t dx 0 = nilS := by unfold shiftS; rw [if_pos (.inl h0)]
    rw [e, h0]
    rfl
  have hb : 0 < t.Rows.length := List.length_pos_iff.2 h0
  have e0 : (((t.Rows.length : Nat) : Int) == 0) = false := by
    rw [beq_eq_false_iff_ne]; omega
  rw [e0]
  simp only [cond_false]
  have dmax : ¬ imax dx 0 > 1200 := by have := imax_or dx 0; omega
  have dmin : ¬ imin dx 0 < -1200 := by have := imin_or dx 0; omega
  have e : shiftS t dx 0 = val10 ⟨t.Low + 0, t.Rows.map (shS dx)⟩ := by unfold shiftS; rw [if_neg (by rw [not_or]; exact ⟨h0, by omega⟩)]
  rw [e, decide_eq_false dmax, decide_eq_false dmin]
  unfold section_Shift_k1 slices_Clone_SSpan
  rw [room_t (by omega)]
  simp only [cond_false, cond_true, Option.bind_some, shift_loop h (dx := dx) (by omega) (by omega), w64_id (n := t.Low + 0) (by omega) (by omega), val10_eq]
theorem VS_shift (s : Section) (dx k : Int) : VS (shiftS s dx k) := by
  unfold shiftS
  split
  · exact VS_nil
  · exact val10_VS _
theorem sh_emp (dx : Int) (x : Span) : empS (shS dx x) = empS x := by
  unfold shS
  cases h : empS x with
  | true => exact h
  | false =>
    unfold empS at h ⊢
    simp only [cond_false]
    have := of_decide_eq_false h
    exact decide_eq_false (by omega)
theorem sh_len (dx : Int) (x : Span) : lenS (shS dx x) = lenS x := by
  have e := sh_emp dx x
  cases h : empS x with
  | true => have : shS dx x = x := by unfold shS; rw [h]; rfl
            rw [this]
  | false =>
    have h1 : shS dx x = ⟨x.A + dx, x.B + dx⟩ := by unfold shS; rw [h]; rfl
    rw [h1, len_def, len_def]
    simp only
    split <;> split <;> omega
end Saw
end Go.SL

namespace Go.SL
/-- A looking loop with a further state that the index settles. -/
theorem loop_findS {ε σ : Type} (N : Nat) (L : Nat → σ → Int → Option (ε ⊕ Unit)) (bad : Nat → Option ε) (st : Nat → σ) (hN : N ≤ 1000000000)
    (h0 : ∀ n i, i < N → (∀ j, j < i → bad j = none) → L (n + 1) (st i) (i : Int) = match bad i with | some e => some (.inl e) | none => L n (st (i + 1)) ((i + 1 : Nat) : Int))
    (h1 : ∀ n, L (n + 1) (st N) (N : Int) = some (.inr ())) : L FUEL (st 0) 0 = some (findN bad 0 N) := by
  have key : ∀ k n x, x + k = N → k < n → (∀ j, j < x → bad j = none) → L n (st x) (x : Int) = some (findN bad x k) := by
    intro k
    induction k with
    | zero =>
      intro n x hx hn hb
      obtain ⟨n, rfl⟩ : ∃ m, n = m + 1 := ⟨n - 1, by omega⟩
      rw [Nat.add_zero] at hx
      subst hx
      exact h1 n
    | succ k ih =>
      intro n x hx hn hb
      obtain ⟨n, rfl⟩ : ∃ m, n = m + 1 := ⟨n - 1, by omega⟩
      rw [h0 n x (by omega) hb, findN]
      cases hc : bad x with
      | some e => rfl
      | none =>
        exact ih n (x + 1) (by omega) (by omega) (fun j hj => by
          by_cases e : j = x
          · subst e; exact hc
          · exact hb j (by omega))
  exact key N FUEL 0 (by omega) (by rw [FUEL_eq]; omega) (fun j hj => by omega)
namespace Saw

/-! ### The check of a solid -/
def lenTo (l : List Slice) (k : Nat) : Int := sumN k (fun i => (l.getD i default).Len)
theorem lenTo_succ (l : List Slice) (k : Nat) : lenTo l (k + 1) = lenTo l k + (l.getD k default).Len := rfl
def badSl (l : List Slice) (i : Nat) : Option Int :=
  if chk10 (l.getD i default).Sec ≠ 0 then some (chk10 (l.getD i default).Sec)
  else if (l.getD i default).Sec.Rows.length = 0 then some 18
  else if (l.getD i default).Len < 1 ∨ 20000 - lenTo l i < (l.getD i default).Len then some 9 else none
theorem badSl_none {l : List Slice} {i : Nat} : badSl l i = none ↔ VS (l.getD i default).Sec ∧ (l.getD i default).Sec.Rows ≠ [] ∧ 1 ≤ (l.getD i default).Len ∧ lenTo l (i + 1) ≤ 20000 := by
  unfold badSl
  rw [← chk10_zero, lenTo_succ]
  by_cases h1 : chk10 (l.getD i default).Sec ≠ 0
  · rw [if_pos h1]; exact ⟨fun h => (by cases h), fun h => absurd h.1 h1⟩
  rw [if_neg h1]
  have h1' : chk10 (l.getD i default).Sec = 0 := by omega
  by_cases h2 : (l.getD i default).Sec.Rows.length = 0
  · rw [if_pos h2]; exact ⟨fun h => (by cases h), fun h => absurd (List.length_eq_zero_iff.1 h2) h.2.1⟩
  rw [if_neg h2]
  have h2' : (l.getD i default).Sec.Rows ≠ [] := fun e => h2 (by rw [e]; rfl)
  by_cases h3 : (l.getD i default).Len < 1 ∨ 20000 - lenTo l i < (l.getD i default).Len
  · rw [if_pos h3]
    simp only [reduceCtorEq, false_iff]
    rintro ⟨_, _, a, b⟩
    omega
  · rw [if_neg h3]
    simp only [true_iff]
    exact ⟨h1', h2', by omega, by omega⟩
theorem badSl_ne {l : List Slice} {i : Nat} {e : Int} (h : badSl l i = some e) : e ≠ 0 := by
  unfold badSl at h
  split at h
  · cases h; assumption
  · split at h
    · cases h; decide
    · split at h
      · cases h; decide
      · cases h
theorem lenTo_bd {l : List Slice} : ∀ {i : Nat}, (∀ j, j < i → badSl l j = none) → (i : Int) ≤ lenTo l i ∧ lenTo l i ≤ 20000
  | 0, _ => ⟨by simp [lenTo, sumN], by simp [lenTo, sumN]⟩
  | i + 1, h => by
    have a := badSl_none.1 (h i (by omega))
    have b := lenTo_bd (i := i) (fun j hj => h j (by omega))
    rw [lenTo_succ] at *
    exact ⟨by omega, a.2.2.2⟩
def chk11 (l : List Slice) : Int := if l.length = 0 then 3 else if 24 < l.length then 4 else match findN (badSl l) 0 l.length with | .inl e => e | .inr _ => 0
theorem solL_eq (l : List Slice) (h : l.length ≤ 24) : solid_Check_L1 l FUEL 0 0 = some (findN (badSl l) 0 l.length) ∧ ref11_Check_L1 l FUEL 0 0 = some (findN (badSl l) 0 l.length) := by
  constructor
  · refine loop_findS l.length (solid_Check_L1 l) (badSl l) (lenTo l) (by omega) (fun n i hi hb => ?_) (fun n => ?_)
    · have b := lenTo_bd hb
      rw [solid_Check_L1, decide_eq_true (by omega), inb_t (by omega) (by omega)]
      simp only [cond_true, Int.toNat_natCast, (chk10_eq _).1, Option.bind_some, solid_Check_k2, inc_eq (show i < 4611686018427387904 by omega)]
      rw [w64_id (n := 20000 - lenTo l i) (by omega) (by omega)]
      unfold badSl
      by_cases h1 : chk10 (l.getD i default).Sec ≠ 0
      · rw [if_pos h1, show (chk10 (l.getD i default).Sec != 0) = true by rw [bne_iff_ne]; exact h1]; rfl
      rw [if_neg h1, show (chk10 (l.getD i default).Sec != 0) = false by rw [bne_eq_false_iff_eq]; omega]
      by_cases h2 : (l.getD i default).Sec.Rows.length = 0
      · rw [if_pos h2, h2]; rfl
      rw [if_neg h2, show ((((l.getD i default).Sec.Rows.length : Nat) : Int) == 0) = false by rw [beq_eq_false_iff_ne]; omega]
      by_cases h3 : (l.getD i default).Len < 1
      · rw [if_pos (.inl h3), decide_eq_true h3]; rfl
      rw [decide_eq_false h3]
      by_cases h4 : 20000 - lenTo l i < (l.getD i default).Len
      · rw [if_pos (.inr h4), decide_eq_true (show (l.getD i default).Len > 20000 - lenTo l i from h4)]; rfl
      rw [if_neg (by omega), decide_eq_false (show ¬ (l.getD i default).Len > 20000 - lenTo l i from h4), lenTo_succ, w64_id (by omega) (by omega)]
      rfl
    · rw [solid_Check_L1, decide_eq_false (by omega)]; rfl
  · refine loop_findS l.length (ref11_Check_L1 l) (badSl l) (lenTo l) (by omega) (fun n i hi hb => ?_) (fun n => ?_)
    · have b := lenTo_bd hb
      rw [ref11_Check_L1, decide_eq_true (by omega), inb_t (by omega) (by omega)]
      simp only [cond_true, Int.toNat_natCast, (chk10_eq _).2, Option.bind_some, ref11_Check_k2, inc_eq (show i < 4611686018427387904 by omega)]
      rw [w64_id (n := 20000 - lenTo l i) (by omega) (by omega)]
      unfold badSl
      by_cases h1 : chk10 (l.getD i default).Sec ≠ 0
      · rw [if_pos h1, show (chk10 (l.getD i default).Sec != 0) = true by rw [bne_iff_ne]; exact h1]; rfl
      rw [if_neg h1, show (chk10 (l.getD i default).Sec != 0) = false by rw [bne_eq_false_iff_eq]; omega]
      by_cases h2 : (l.getD i default).Sec.Rows.length = 0
      · rw [if_pos h2, h2]; rfl
      rw [if_neg h2, show ((((l.getD i default).Sec.Rows.length : Nat) : Int) == 0) = false by rw [beq_eq_false_iff_ne]; omega]
      by_cases h3 : (l.getD i default).Len < 1
      · rw [if_pos (.inl h3), decide_eq_true h3]; rfl
      rw [decide_eq_false h3]
      by_cases h4 : 20000 - lenTo l i < (l.getD i default).Len
      · rw [if_pos (.inr h4), decide_eq_true (show (l.getD i default).Len > 20000 - lenTo l i from h4)]; rfl
      rw [if_neg (by omega), decide_eq_false (show ¬ (l.getD i default).Len > 20000 - lenTo l i from h4), lenTo_succ, w64_id (by omega) (by omega)]
      rfl
    · rw [ref11_Check_L1, decide_eq_false (by omega)]; rfl
theorem chk11_eq (l : List Slice) : solid_Check l = some (chk11 l) ∧ ref11_Check l = some (chk11 l) := by
  unfold solid_Check ref11_Check chk11
  by_cases h0 : l.length = 0
  · rw [if_pos h0, h0]; exact ⟨rfl, rfl⟩
  rw [if_neg h0, show (((l.length : Nat) : Int) == 0) = false by rw [beq_eq_false_iff_ne]; omega]
  by_cases h1 : 24 < l.length
  · rw [if_pos h1, decide_eq_true (by omega)]; exact ⟨rfl, rfl⟩
  rw [if_neg h1, decide_eq_false (by omega)]
  simp only [cond_false]
  rw [(solL_eq l (by omega)).1, (solL_eq l (by omega)).2]
  cases findN (badSl l) 0 l.length <;> exact ⟨rfl, rfl⟩
/-- A valid solid. -/
structure VSol (l : List Slice) : Prop where
  ne : 0 < l.length
  len : l.length ≤ 24
  ok : ∀ i, i < l.length → badSl l i = none
theorem chk11_zero (l : List Slice) : chk11 l = 0 ↔ VSol l := by
  unfold chk11
  by_cases h0 : l.length = 0
  · rw [if_pos h0]; exact ⟨fun h => absurd h (by decide), fun h => by have := h.ne; omega⟩
  rw [if_neg h0]
  by_cases h1 : 24 < l.length
  · rw [if_pos h1]; exact ⟨fun h => absurd h (by decide), fun h => by have := h.len; omega⟩
  rw [if_neg h1]
  cases hf : findN (badSl l) 0 l.length with
  | inl e =>
    obtain ⟨i, a, b, c, d⟩ := findN_some hf
    simp only
    exact ⟨fun h => absurd h (badSl_ne c), fun h => by rw [h.ok i (by omega)] at c; cases c⟩
  | inr u => exact ⟨fun _ => ⟨by omega, by omega, fun i hi => findN_none.1 hf i (by omega) (by omega)⟩, fun _ => rfl⟩
theorem VSol.at {l : List Slice} (h : VSol l) {i : Nat} (hi : i < l.length) : VS (l.getD i default).Sec ∧ (l.getD i default).Sec.Rows ≠ [] ∧ 1 ≤ (l.getD i default).Len ∧ lenTo l (i + 1) ≤ 20000 := badSl_none.1 (h.ok i hi)
theorem VSol.bd {l : List Slice} (h : VSol l) {i : Nat} (hi : i ≤ l.length) : (i : Int) ≤ lenTo l i ∧ lenTo l i ≤ 20000 := lenTo_bd (fun j hj => h.ok j (by omega))
theorem VSol.mono {l : List Slice} (h : VSol l) : ∀ {j : Nat}, j ≤ l.length → ∀ {i : Nat}, i ≤ j → lenTo l i ≤ lenTo l j
  | 0, _, i, hi => by rw [show i = 0 by omega]; exact Int.le_refl _
  | j + 1, hj, i, hi => by
    by_cases e : i = j + 1
    · rw [e]; exact Int.le_refl _
    · have := h.mono (j := j) (by omega) (i := i) (by omega)
      have := (h.at (i := j) (by omega)).2.2.1
      rw [lenTo_succ]; omega
def valL (l : List Slice) : List Slice := if chk11 l = 0 then l else []
theorem valL_eq (l : List Slice) : solid_valid l = some (valL l) := by
  unfold solid_valid valL
  rw [(chk11_eq l).1]
  simp only [Option.bind_some]
  by_cases h : chk11 l = 0
  · rw [if_pos h, h]; rfl
  · rw [if_neg h, show (chk11 l != 0) = true by rw [bne_iff_ne]; exact h]; rfl
theorem valL_of {l : List Slice} (h : VSol l) : valL l = l := by unfold valL; rw [if_pos ((chk11_zero l).2 h)]
def solLen (l : List Slice) : Int := lenTo l l.length
theorem lenL_gen {l : List Slice} (h : VSol l) : solid_Length_L1 l FUEL 0 0 = some (solLen l) ∧ ref11_Length_L1 l FUEL 0 0 = some (solLen l) := by
  have hl := h.len
  have f : ∀ k, foldN (fun i s => s + (l.getD i default).Len) 0 k 0 = lenTo l k := by
    intro k
    induction k with
    | zero => rfl
    | succ k ih => rw [foldN_succ, ih, Nat.zero_add]; rfl
  constructor
  · have k := (loop_foldN l.length (fun n (s : Int) i => solid_Length_L1 l n s i) (fun i s => s + (l.getD i default).Len) (fun s => s) (fun i s => s = lenTo l i) 0 (by omega) (by omega) (fun n i s hi hs => by
      have b := h.bd (i := i) (by omega)
      have b' := h.bd (i := i + 1) (by omega)
      rw [lenTo_succ] at b'
      refine ⟨?_, by rw [hs, lenTo_succ]⟩
      rw [solid_Length_L1, decide_eq_true (by omega), inb_t (by omega) (by omega)]
      simp only [cond_true, Int.toNat_natCast, inc_eq (show i < 4611686018427387904 by omega)]
      rw [w64_id (by omega) (by omega)]) (fun n s _ => by rw [solid_Length_L1, decide_eq_false (by omega)]; rfl) 0 rfl).1
    rw [Nat.sub_zero, f] at k
    exact k
  · have k := (loop_foldN l.length (fun n (s : Int) i => ref11_Length_L1 l n s i) (fun i s => s + (l.getD i default).Len) (fun s => s) (fun i s => s = lenTo l i) 0 (by omega) (by omega) (fun n i s hi hs => by
      have b := h.bd (i := i) (by omega)
      have b' := h.bd (i := i + 1) (by omega)
      rw [lenTo_succ] at b'
      refine ⟨?_, by rw [hs, lenTo_succ]⟩
      rw [ref11_Length_L1, decide_eq_true (by omega), inb_t (by omega) (by omega)]
      simp only [cond_true, Int.toNat_natCast, inc_eq (show i < 4611686018427387904 by omega)]
      rw [w64_id (by omega) (by omega)]) (fun n s _ => by rw [ref11_Length_L1, decide_eq_false (by omega)]; rfl) 0 rfl).1
    rw [Nat.sub_zero, f] at k
    exact k
theorem Length_eq (l : List Slice) : solid_Length l = some (solLen (valL l)) ∧ ref11_Length l = some (solLen (valL l)) := by
  unfold solid_Length ref11_Length
  rw [valL_eq, (chk11_eq l).2]
  simp only [Option.bind_some]
  by_cases h : chk11 l = 0
  · have v := (chk11_zero l).1 h
    rw [valL_of v, h, (lenL_gen v).1, (lenL_gen v).2]; exact ⟨rfl, rfl⟩
  · have e : valL l = [] := by unfold valL; rw [if_neg h]
    rw [e, show (chk11 l != 0) = true by rw [bne_iff_ne]; exact h]
    constructor
    · rw [FUEL_eq]; rfl
    · rfl
end Saw
end Go.SL
