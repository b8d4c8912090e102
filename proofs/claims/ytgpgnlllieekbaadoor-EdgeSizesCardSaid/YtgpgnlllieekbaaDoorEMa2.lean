/- Edge's plain mathematics, part 2: Sizes. -/
import Derived.Test.YtgpgnlllieekbaaDoorEMa1
set_option linter.unusedVariables false
set_option linter.unusedSimpArgs false
namespace Go.SL
namespace Saw

theorem room_small {n b : Nat} (h1 : n ≤ 1000000) (h2 : b ≤ 1000000) : room n b = true := room_t (by
  have := Nat.mul_le_mul h1 h2; omega)
def sizStep (l : List Product) (t : Int) (i : Nat) (s : List Int × List Int) : List Int × List Int :=
  bif (green (l.getD i default)).1 == t then (s.1 ++ [(green (l.getD i default)).2], s.2 ++ [(i : Int)])
  else bif (green (l.getD i default)).2 == t then (s.1 ++ [(green (l.getD i default)).1], s.2 ++ [(i : Int)])
  else s
def sizes (l : List Product) (t : Int) : List Int × List Int := if chk19 l ≠ 0 then ([], []) else foldN (sizStep l t) 0 l.length ([], [])
theorem sizStep_len {l : List Product} {t : Int} {i : Nat} {s : List Int × List Int} (h : s.1.length ≤ i ∧ s.2.length ≤ i) : (sizStep l t i s).1.length ≤ i + 1 ∧ (sizStep l t i s).2.length ≤ i + 1 := by
  unfold sizStep
  cases (green (l.getD i default)).1 == t with
  | true => simp; omega
  | false => cases (green (l.getD i default)).2 == t with
    | true => simp; omega
    | false => simp; omega
theorem chk19_len {l : List Product} (h : ¬ chk19 l ≠ 0) : l.length ≤ 16 := by
  unfold chk19 at h
  by_cases q : 16 < l.length
  · rw [if_pos q] at h; exact absurd (by decide) h
  · omega
theorem Sizes_eq (l : List Product) (t : Int) : edge_Sizes l t = some (sizes l t) ∧ ref23_Sizes l t = some (sizes l t) := by
  unfold edge_Sizes ref23_Sizes sizes
  rw [chk19_eq, ref_chk19_eq]
  simp only [Option.bind_some]
  by_cases hc : chk19 l ≠ 0
  · rw [if_pos hc, show (chk19 l != 0) = true by rw [bne_iff_ne]; exact hc]; exact ⟨rfl, rfl⟩
  rw [if_neg hc, show (chk19 l != 0) = false by rw [bne_eq_false_iff_eq]; omega]
  simp only [cond_false]
  have hl := chk19_len hc
  have A : edge_Sizes_L1 l t FUEL [] [] ((0 : Nat) : Int) = some (foldN (sizStep l t) 0 (l.length - 0) ([], [])) := by
    refine (loop_foldN l.length (fun n (s : List Int × List Int) i => edge_Sizes_L1 l t n s.1 s.2 i) (sizStep l t) (fun s => s) (fun i s => s.1.length ≤ i ∧ s.2.length ≤ i) 0 (by omega) (by omega) (fun n i s hN hi => ?_) (fun n s _ => ?_) ([], []) ⟨by simp, by simp⟩).1
    · refine ⟨?_, sizStep_len hi⟩
      obtain ⟨s1, s2⟩ := s
      try simp only at hi
      try simp only
      rw [edge_Sizes_L1, decide_eq_true (by omega), inb_t (by omega) (by omega)]
      simp only [cond_true, Int.toNat_natCast, inc_eq (show i < 4611686018427387904 by omega), (Green_eq _).1, Option.bind_some, edge_Sizes_k2, edge_Sizes_k3, room_small (show s1.length + 1 ≤ 1000000 by omega) (show 8 ≤ 1000000 by omega), room_small (show s2.length + 1 ≤ 1000000 by omega) (show 8 ≤ 1000000 by omega), sizStep]
      rw [show (t == (green (l.getD i default)).1) = ((green (l.getD i default)).1 == t) from Bool.eq_iff_iff.2 (by rw [beq_iff_eq, beq_iff_eq]; exact eq_comm), show (t == (green (l.getD i default)).2) = ((green (l.getD i default)).2 == t) from Bool.eq_iff_iff.2 (by rw [beq_iff_eq, beq_iff_eq]; exact eq_comm)]
      cases (green (l.getD i default)).1 == t <;> cases (green (l.getD i default)).2 == t <;> rfl
    · rw [edge_Sizes_L1, decide_eq_false (by omega)]; rfl
  have B : ref23_Sizes_L1 l t FUEL [] [] ((0 : Nat) : Int) = some (foldN (sizStep l t) 0 (l.length - 0) ([], [])) := by
    refine (loop_foldN l.length (fun n (s : List Int × List Int) i => ref23_Sizes_L1 l t n s.1 s.2 i) (sizStep l t) (fun s => s) (fun i s => s.1.length ≤ i ∧ s.2.length ≤ i) 0 (by omega) (by omega) (fun n i s hN hi => ?_) (fun n s _ => ?_) ([], []) ⟨by simp, by simp⟩).1
    · refine ⟨?_, sizStep_len hi⟩
      obtain ⟨s1, s2⟩ := s
      try simp only at hi
      try simp only
      rw [ref23_Sizes_L1, decide_eq_true (by omega), inb_t (by omega) (by omega)]
      simp only [cond_true, Int.toNat_natCast, inc_eq (show i < 4611686018427387904 by omega), (Green_eq _).2, Option.bind_some, ref23_Sizes_k2, room_small (show s1.length + 1 ≤ 1000000 by omega) (show 8 ≤ 1000000 by omega), room_small (show s2.length + 1 ≤ 1000000 by omega) (show 8 ≤ 1000000 by omega), sizStep]
      cases (green (l.getD i default)).1 == t <;> cases (green (l.getD i default)).2 == t <;> rfl
    · rw [ref23_Sizes_L1, decide_eq_false (by omega)]; rfl
  rw [show ((0 : Nat) : Int) = 0 from rfl] at A B
  rw [A, B]
  exact ⟨rfl, rfl⟩
theorem sizes_len (l : List Product) (t : Int) : (sizes l t).1.length ≤ 16 ∧ (sizes l t).2.length ≤ 16 := by
  unfold sizes
  by_cases hc : chk19 l ≠ 0
  · rw [if_pos hc]; simp
  rw [if_neg hc]
  have hl := chk19_len hc
  have : ∀ k, (foldN (sizStep l t) 0 k ([], [])).1.length ≤ k ∧ (foldN (sizStep l t) 0 k ([], [])).2.length ≤ k := by
    intro k
    induction k with
    | zero => simp [foldN]
    | succ k ih => rw [foldN_succ, Nat.zero_add]; exact sizStep_len ih
  have := this l.length
  omega
theorem Same_self (l : List Int) (h : l.length ≤ 1000000) : ref05_Same l l = some true := by
  unfold ref05_Same
  rw [show (((l.length : Nat) : Int) != ((l.length : Nat) : Int)) = false by rw [bne_eq_false_iff_eq]]
  have L : ref05_Same_L1 l l FUEL ((0 : Nat) : Int) = some (findN (fun _ => (none : Option Bool)) 0 (l.length - 0)) := by
    refine loop_findN l.length (ref05_Same_L1 l l) _ 0 (by omega) (by omega) (fun n i hi hN => ?_) (fun n => ?_)
    · rw [ref05_Same_L1, decide_eq_true (by omega), inb_t (by omega) (by omega)]
      simp only [cond_true, Int.toNat_natCast, inc_eq (show i < 4611686018427387904 by omega), bne_self_eq_false, cond_false]
    · rw [ref05_Same_L1, decide_eq_false (by omega)]; rfl
  rw [show ((0 : Nat) : Int) = 0 from rfl] at L
  rw [L, findN_none.2 (fun _ _ _ => rfl)]
  rfl
def shortP (p : Product) : Bool := decide (p.Lengths.length ≤ 12) && (decide (p.Prices.length ≤ 12) && decide (p.Name.size ≤ 100))
def badSh (l : List Product) (i : Nat) : Option Bool := if 20 ≤ i then some false else bif shortP (l.getD i default) then none else some false
theorem Short_step (l : List Product) (n i : Nat) (hi : i < l.length) (hi' : i ≤ 20) : law19_Short_L1 l (n + 1) (i : Int) = match badSh l i with | some e => some (.inl e) | none => law19_Short_L1 l n ((i + 1 : Nat) : Int) := by
  rw [law19_Short_L1, decide_eq_true (by omega)]
  simp only [cond_true, Int.toNat_natCast, inc_eq (show i < 4611686018427387904 by omega), inb_t (show (0 : Int) ≤ (i : Int) by omega) (show (i : Int) < (l.length : Int) by omega), law19_Short_k2, badSh]
  by_cases h1 : 20 ≤ i
  · rw [if_pos h1, decide_eq_true (show (i : Int) ≥ 20 by omega)]; rfl
  rw [if_neg h1, decide_eq_false (show ¬ (i : Int) ≥ 20 by omega)]
  unfold shortP
  by_cases h2 : (l.getD i default).Lengths.length ≤ 12
  · rw [decide_eq_true h2, decide_eq_false (show ¬ (((l.getD i default).Lengths.length : Nat) : Int) > 12 by omega)]
    by_cases h3 : (l.getD i default).Prices.length ≤ 12
    · rw [decide_eq_true h3, decide_eq_false (show ¬ (((l.getD i default).Prices.length : Nat) : Int) > 12 by omega)]
      by_cases h4 : (l.getD i default).Name.size ≤ 100
      · rw [decide_eq_true h4, decide_eq_false (show ¬ (((l.getD i default).Name.size : Nat) : Int) > 100 by omega)]; rfl
      · rw [decide_eq_false h4, decide_eq_true (show (((l.getD i default).Name.size : Nat) : Int) > 100 by omega)]; rfl
    · rw [decide_eq_false h3, decide_eq_true (show (((l.getD i default).Prices.length : Nat) : Int) > 12 by omega)]; rfl
  · rw [decide_eq_false h2, decide_eq_true (show (((l.getD i default).Lengths.length : Nat) : Int) > 12 by omega)]; rfl
theorem Short_long (l : List Product) (h : 20 < l.length) : ∀ (k n i : Nat), i + k = 20 → k < n → law19_Short_L1 l n (i : Int) = some (.inl false)
  | 0, n + 1, i, hi, hn => by
    rw [Short_step l n i (by omega) (by omega), badSh, if_pos (by omega)]
  | k + 1, n + 1, i, hi, hn => by
    rw [Short_step l n i (by omega) (by omega), badSh, if_neg (by omega)]
    cases shortP (l.getD i default) with
    | false => rfl
    | true => exact Short_long l h k n (i + 1) (by omega) (by omega)
def isShort (l : List Product) : Bool := decide (l.length ≤ 20) && l.all shortP
theorem Short_eq (l : List Product) : law19_Short l = some (isShort l) := by
  unfold law19_Short isShort
  by_cases h : 20 < l.length
  · rw [show (0 : Int) = ((0 : Nat) : Int) from rfl, Short_long l h 20 FUEL 0 rfl (by rw [FUEL_eq]; omega), decide_eq_false (by omega)]; rfl
  have L : law19_Short_L1 l FUEL ((0 : Nat) : Int) = some (findN (badSh l) 0 (l.length - 0)) := by
    refine loop_findN l.length (law19_Short_L1 l) _ 0 (by omega) (by omega) (fun n i hi hN => by rw [Short_step l n i hN (by omega)]; cases badSh l i <;> rfl) (fun n => ?_)
    rw [law19_Short_L1, decide_eq_false (by omega)]; rfl
  rw [show ((0 : Nat) : Int) = 0 from rfl] at L
  rw [L, decide_eq_true (by omega), Bool.true_and]
  simp only [Option.bind_some]
  cases hf : findN (badSh l) 0 (l.length - 0) with
  | inl e =>
    obtain ⟨i, a, b, c, d⟩ := findN_some hf
    unfold badSh at c
    rw [if_neg (by omega)] at c
    cases hs : shortP (l.getD i default) with
    | true => rw [hs] at c; cases c
    | false =>
      rw [hs] at c
      cases c
      simp only [Sum.elim_inl]
      congr 1
      symm
      rw [Bool.eq_false_iff]
      intro q
      rw [List.all_eq_true] at q
      rw [q _ (getD_mem' (by omega))] at hs
      cases hs
  | inr u =>
    simp only [Sum.elim_inr]
    congr 1
    symm
    rw [List.all_eq_true]
    intro p hp
    obtain ⟨i, hi, e⟩ := List.getElem_of_mem hp
    have := findN_none.1 hf i (by omega) (by omega)
    unfold badSh at this
    rw [if_neg (by omega), show l.getD i default = p by rw [List.getD_eq_getElem?_getD, List.getElem?_eq_getElem hi, e]; rfl] at this
    cases hs : shortP p with
    | true => rfl
    | false => rw [hs] at this; cases this
theorem EdgeSizes_true (l : List Product) (t : Int) {w w' : Prop} (_ : w) (_ : w') : law23_EdgeSizes l t = some true := by
  unfold law23_EdgeSizes
  have hl := sizes_len l t
  rw [Short_eq, (Sizes_eq l t).1, (Sizes_eq l t).2]
  simp only [Option.bind_some, awake23_true, law23_EdgeSizes_k1, Same_self (sizes l t).1 (by omega), Same_self (sizes l t).2 (by omega)]
  cases isShort l <;> rfl
end Saw
end Go.SL
