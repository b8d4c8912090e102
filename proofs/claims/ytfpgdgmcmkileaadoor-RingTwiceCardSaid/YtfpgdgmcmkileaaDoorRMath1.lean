/- The ring laws' plain mathematics, part 1: the checks, sameness, merging. -/
import Derived.Test.YtfpgdgmcmkileaaDoorRRead
set_option linter.unusedVariables false
set_option linter.unusedSimpArgs false
namespace Go.SL
namespace Saw

theorem awake_true : law12_awake = some true := by kernel_rfl
theorem FUEL_eq : FUEL = 4611686018427387904 := by unfold FUEL; rfl
theorem w64_id {n : Int} (h1 : -9223372036854775808 ≤ n) (h2 : n ≤ 9223372036854775807) : w64 n = n := by
  unfold w64 IntKind.wrap
  simp only [IntKind.bits, IntKind.signed, Bool.true_and]
  split
  · rename_i h
    have h' : n % 2 ^ 64 ≥ 2 ^ (64 - 1) := of_decide_eq_true h
    omega
  · rename_i h
    have h' : ¬ n % 2 ^ 64 ≥ 2 ^ (64 - 1) := fun hh => h (decide_eq_true hh)
    omega
theorem inb_t {i : Int} {n : Nat} (h0 : 0 ≤ i) (h1 : i < (n : Int)) : inb i n = true := by unfold inb; exact decide_eq_true ⟨h0, h1⟩
theorem nz_t {b : Int} (h : b ≠ 0) : nz b = true := by unfold nz; exact decide_eq_true h
theorem room_t {n b : Nat} (h : n * b ≤ 140737488355328) : room n b = true := by unfold room; exact decide_eq_true h

theorem within_eq (a : Int) : ring_within a = some (decide (-600 ≤ a) && decide (a ≤ 600)) := by
  unfold ring_within ring_within_k1
  by_cases h : a ≥ -600
  · simp [h]
  · simp [h]

def inRange (p : Point) : Bool := (decide (-600 ≤ p.X) && decide (p.X ≤ 600)) && (decide (-600 ≤ p.Y) && decide (p.Y ≤ 600))

theorem ranged_one (p : Point) : ref09_Ranged [p] = some (inRange p) := by
  unfold ref09_Ranged
  rw [FUEL_eq]
  rw [show (4611686018427387904 : Nat) = 4611686018427387902 + 1 + 1 from rfl]
  unfold ref09_Ranged_L1
  have e1 : w64 (0 + 1) = 1 := by kernel_rfl
  have tail : ref09_Ranged_L1 [p] (4611686018427387902 + 1) 1 = some (Sum.inr ()) := by
    unfold ref09_Ranged_L1
    simp
  have hi : inb 0 1 = true := by kernel_rfl
  simp only [List.length_cons, List.length_nil, Nat.zero_add, ref09_Ranged_k2, e1, tail, hi, cond_true, Int.toNat_zero, List.getD_cons_zero]
  have h01 : decide ((0 : Int) < ((1 : Nat) : Int)) = true := by decide
  rw [h01]
  simp only [cond_true, inRange]
  by_cases h1 : p.X < -600
  · have g1 : ¬ -600 ≤ p.X := by omega
    simp [h1, g1]
  · have g1 : -600 ≤ p.X := by omega
    by_cases h2 : p.X > 600
    · have g2 : ¬ p.X ≤ 600 := by omega
      simp [h1, h2, g2]
    · have g2 : p.X ≤ 600 := by omega
      by_cases h3 : p.Y < -600
      · have g3 : ¬ -600 ≤ p.Y := by omega
        simp [h1, h2, h3, g3]
      · have g3 : -600 ≤ p.Y := by omega
        by_cases h4 : p.Y > 600
        · have g4 : ¬ p.Y ≤ 600 := by omega
          simp [h1, h2, h3, h4, g4]
        · have g4 : p.Y ≤ 600 := by omega
          simp [h1, h2, h3, h4, g1, g2, g3, g4]

def isZero (p : Point) : Bool := p.X == 0 && (p.Y == 0 && true)

/-- What both checks' loops do at a reading: 9, 19 or on. -/
def chkAt (r : Reading) : Int := bif r.Ok && !inRange r.P then 9 else bif !r.Ok && !isZero r.P then 19 else 0
def chkFrom (l : List Reading) : Int := match l with
  | [] => 0
  | r :: l => bif chkAt r == 0 then chkFrom l else chkAt r

def wrapC (c : Int) : Int ⊕ Unit := bif c == 0 then .inr () else .inl c

theorem drop_getD {α : Type} [Inhabited α] (l : List α) (x : Nat) (h : x < l.length) : l.drop x = l.getD x default :: l.drop (x + 1) := by
  rw [List.drop_eq_getElem_cons h, List.getD_eq_getElem?_getD, List.getElem?_eq_getElem h]
  rfl

theorem ring_loop (a : Ring) : ∀ (n : Nat) (x : Nat), a.Read.length < x + n → x ≤ a.Read.length → a.Read.length ≤ 1000 → ring_Check_L2 a n (x : Int) = some (wrapC (chkFrom (a.Read.drop x)))
  | 0, x, h1, h2, _ => by omega
  | n + 1, x, h1, h2, h3 => by
    unfold ring_Check_L2
    by_cases hx : x < a.Read.length
    · have hd := drop_getD a.Read x hx
      have ih := ring_loop a n (x + 1) (by omega) (by omega) h3
      have e1 : w64 ((x : Int) + 1) = ((x + 1 : Nat) : Int) := by rw [w64_id (by omega) (by omega)]; omega
      have c1 : decide ((x : Int) < ((a.Read.length : Nat) : Int)) = true := decide_eq_true (by omega)
      rw [c1, inb_t (by omega) (by omega), hd]
      simp only [cond_true, Int.toNat_natCast, within_eq, Option.bind_some, ring_Check_k3, ring_Check_k4, e1, ih, chkFrom, chkAt, inRange, isZero]
      generalize a.Read.getD x default = r
      cases r.Ok <;> cases (decide (-600 ≤ r.P.X) && decide (r.P.X ≤ 600)) <;> cases (decide (-600 ≤ r.P.Y) && decide (r.P.Y ≤ 600)) <;> cases (r.P.X == 0 && (r.P.Y == 0 && true)) <;> simp [wrapC]
    · have c1 : decide ((x : Int) < ((a.Read.length : Nat) : Int)) = false := decide_eq_false (by omega)
      rw [c1, List.drop_of_length_le (by omega)]
      rfl

theorem ref_loop (a : Ring) : ∀ (n : Nat) (x : Nat), a.Read.length < x + n → x ≤ a.Read.length → a.Read.length ≤ 1000 → ref12_Check_L2 a n (x : Int) = some (wrapC (chkFrom (a.Read.drop x)))
  | 0, x, h1, h2, _ => by omega
  | n + 1, x, h1, h2, h3 => by
    unfold ref12_Check_L2
    by_cases hx : x < a.Read.length
    · have hd := drop_getD a.Read x hx
      have ih := ref_loop a n (x + 1) (by omega) (by omega) h3
      have e1 : w64 ((x : Int) + 1) = ((x + 1 : Nat) : Int) := by rw [w64_id (by omega) (by omega)]; omega
      have c1 : decide ((x : Int) < ((a.Read.length : Nat) : Int)) = true := decide_eq_true (by omega)
      rw [c1, inb_t (by omega) (by omega), hd]
      simp only [cond_true, Int.toNat_natCast, ranged_one, Option.bind_some, ref12_Check_k3, ref12_Check_k4, e1, ih, chkFrom, chkAt, isZero]
      generalize a.Read.getD x default = r
      cases r.Ok <;> cases inRange r.P <;> cases (r.P.X == 0 && (r.P.Y == 0 && true)) <;> simp [wrapC]
    · have c1 : decide ((x : Int) < ((a.Read.length : Nat) : Int)) = false := decide_eq_false (by omega)
      rw [c1, List.drop_of_length_le (by omega)]
      rfl

def chk (a : Ring) : Int :=
  bif decide (((a.Read.length : Nat) : Int) < 8) then 3 else bif decide (((a.Read.length : Nat) : Int) > 32) then 4 else bif decide (a.Z < 0) then 9 else bif decide (a.Z > 20000) then 9 else chkFrom a.Read

theorem ring_check (a : Ring) : ring_Check a = some (chk a) := by
  unfold ring_Check chk ring_Check_k1
  by_cases h1 : ((a.Read.length : Nat) : Int) < 8
  · simp [h1]
  by_cases h2 : ((a.Read.length : Nat) : Int) > 32
  · simp [h1, h2]
  have hl := ring_loop a FUEL 0 (by rw [FUEL_eq]; omega) (by omega) (by omega)
  rw [List.drop_zero] at hl
  by_cases h3 : a.Z < 0
  · simp [h1, h2, h3]
  by_cases h4 : a.Z > 20000
  · simp [h1, h2, h3, h4]
  rw [decide_eq_false h1, decide_eq_false h2, decide_eq_false h3, decide_eq_false h4]
  have hl' : ring_Check_L2 a FUEL 0 = some (wrapC (chkFrom a.Read)) := hl
  simp only [cond_false, hl', Option.bind_some, wrapC]
  by_cases hc : chkFrom a.Read = 0
  · rw [hc]; rfl
  · have hb : (chkFrom a.Read == 0) = false := by simpa using hc
    rw [hb]; rfl

theorem ref_check (a : Ring) : ref12_Check a = some (chk a) := by
  unfold ref12_Check chk ref12_Check_k1
  by_cases h1 : ((a.Read.length : Nat) : Int) < 8
  · simp [h1]
  by_cases h2 : ((a.Read.length : Nat) : Int) > 32
  · simp [h1, h2]
  have hl := ref_loop a FUEL 0 (by rw [FUEL_eq]; omega) (by omega) (by omega)
  rw [List.drop_zero] at hl
  by_cases h3 : a.Z < 0
  · simp [h1, h2, h3]
  by_cases h4 : a.Z > 20000
  · simp [h1, h2, h3, h4]
  rw [decide_eq_false h1, decide_eq_false h2, decide_eq_false h3, decide_eq_false h4]
  have hl' : ref12_Check_L2 a FUEL 0 = some (wrapC (chkFrom a.Read)) := hl
  simp only [cond_false, hl', Option.bind_some, wrapC]
  by_cases hc : chkFrom a.Read = 0
  · rw [hc]; rfl
  · have hb : (chkFrom a.Read == 0) = false := by simpa using hc
    rw [hb]; rfl

structure Good (a : Ring) : Prop where
  lo : 8 ≤ a.Read.length
  hi : a.Read.length ≤ 32
  z0 : 0 ≤ a.Z
  z1 : a.Z ≤ 20000
  all : ∀ r ∈ a.Read, chkAt r = 0

theorem chkFrom_zero : ∀ {l : List Reading}, chkFrom l = 0 ↔ ∀ r ∈ l, chkAt r = 0
  | [] => by simp [chkFrom]
  | r :: l => by
    simp only [chkFrom, List.mem_cons, forall_eq_or_imp]
    by_cases h : chkAt r = 0
    · simp [h, chkFrom_zero (l := l)]
    · have hb : (chkAt r == 0) = false := by simpa using h
      rw [hb]
      exact ⟨fun h' => absurd h' h, fun h' => absurd h'.1 h⟩

theorem good_iff (a : Ring) : chk a = 0 ↔ Good a := by
  unfold chk
  by_cases h1 : ((a.Read.length : Nat) : Int) < 8
  · simp only [h1, decide_true, cond_true]
    exact ⟨fun h => by omega, fun h => by have := h.lo; omega⟩
  by_cases h2 : ((a.Read.length : Nat) : Int) > 32
  · simp only [h1, h2, decide_true, decide_false, cond_true, cond_false]
    exact ⟨fun h => by omega, fun h => by have := h.hi; omega⟩
  by_cases h3 : a.Z < 0
  · simp only [h1, h2, h3, decide_true, decide_false, cond_true, cond_false]
    exact ⟨fun h => by omega, fun h => by have := h.z0; omega⟩
  by_cases h4 : a.Z > 20000
  · simp only [h1, h2, h3, h4, decide_true, decide_false, cond_true, cond_false]
    exact ⟨fun h => by omega, fun h => by have := h.z1; omega⟩
  simp only [h1, h2, h3, h4, decide_false, cond_false, chkFrom_zero]
  exact ⟨fun h => ⟨by omega, by omega, by omega, by omega, h⟩, fun h => h.all⟩

/-! ### Sameness -/

def eqR (r s : Reading) : Bool := ((r.P.X == s.P.X) && ((r.P.Y == s.P.Y) && true)) && ((r.Ok == s.Ok) && true)
theorem eqR_iff (r s : Reading) : eqR r s = true ↔ r = s := by
  obtain ⟨⟨x, y⟩, o⟩ := r
  obtain ⟨⟨x', y'⟩, o'⟩ := s
  simp [eqR, and_assoc]

theorem same_loop (a : Ring) : ∀ (n : Nat) (x : Nat), a.Read.length < x + n → x ≤ a.Read.length → a.Read.length ≤ 1000 → ref12_Same_L2 a a n (x : Int) = some (.inr ())
  | 0, x, h1, h2, _ => by omega
  | n + 1, x, h1, h2, h3 => by
    unfold ref12_Same_L2
    by_cases hx : x < a.Read.length
    · have ih := same_loop a n (x + 1) (by omega) (by omega) h3
      have e1 : w64 ((x : Int) + 1) = ((x + 1 : Nat) : Int) := by rw [w64_id (by omega) (by omega)]; omega
      have c1 : decide ((x : Int) < ((a.Read.length : Nat) : Int)) = true := decide_eq_true (by omega)
      rw [c1, inb_t (by omega) (by omega), e1, ih]
      simp
    · have c1 : decide ((x : Int) < ((a.Read.length : Nat) : Int)) = false := decide_eq_false (by omega)
      rw [c1]
      rfl

theorem same_self (a : Ring) (h : a.Read.length ≤ 1000) : ref12_Same a a = some true := by
  unfold ref12_Same ref12_Same_k1
  have hl : ref12_Same_L2 a a FUEL 0 = some (.inr ()) := same_loop a FUEL 0 (by rw [FUEL_eq]; omega) (by omega) h
  simp [hl]

/-! ### Merging -/

theorem merge_loop (a b : Ring) (hab : a.Read.length = b.Read.length) : ∀ (n : Nat) (x : Nat) (l : List Reading), a.Read.length < x + n → x ≤ a.Read.length → a.Read.length ≤ 1000 → l.length = a.Read.length → (∀ j, x ≤ j → l.getD j default = a.Read.getD j default) →
    ∃ r, ring_Merge_L2 a b n (x : Int) l = some r ∧ ref12_Merge_L2 b n (x : Int) l = some r ∧ r.length = a.Read.length
  | 0, x, l, h1, h2, _, _, _ => by omega
  | n + 1, x, l, h1, h2, h3, hl, hj => by
    unfold ring_Merge_L2 ref12_Merge_L2
    by_cases hx : x < a.Read.length
    · have e1 : w64 ((x : Int) + 1) = ((x + 1 : Nat) : Int) := by rw [w64_id (by omega) (by omega)]; omega
      have c1 : decide ((x : Int) < ((a.Read.length : Nat) : Int)) = true := decide_eq_true (by omega)
      rw [hl, c1, inb_t (by omega) (by omega), inb_t (n := b.Read.length) (by omega) (by omega)]
      simp only [cond_true, Int.toNat_natCast, hj x (Nat.le_refl _), ring_Merge_k3, ref12_Merge_k3, e1]
      cases (a.Read.getD x default).Ok with
      | true => exact merge_loop a b hab n (x + 1) l (by omega) (by omega) h3 hl (fun j h => hj j (by omega))
      | false => exact merge_loop a b hab n (x + 1) _ (by omega) (by omega) h3 (by rw [List.length_set]; exact hl) (fun j h => by
          rw [← hj j (by omega), List.getD_eq_getElem?_getD, List.getElem?_set_ne (by omega), ← List.getD_eq_getElem?_getD])
    · have c1 : decide ((x : Int) < ((a.Read.length : Nat) : Int)) = false := decide_eq_false (by omega)
      rw [hl, c1]
      exact ⟨l, rfl, rfl, hl⟩

theorem clone_eq (a : Ring) (h : a.Read.length ≤ 1000) : ring_clone a = some a := by
  unfold ring_clone slices_Clone_Reading
  rw [room_t (by omega)]
  rfl
theorem copied_eq (a : Ring) (h : a.Read.length ≤ 1000) : ref12_copied a = some a := by
  unfold ref12_copied
  rw [room_t (by omega)]
  rfl

/-- Both merges give the same. -/
theorem merges (a b : Ring) : ∃ r, ring_Merge a b = some r ∧ ref12_Merge a b = some r ∧ r.1.Read.length ≤ 1000 := by
  unfold ring_Merge ref12_Merge
  simp only [ring_check, ref_check, Option.bind_some]
  by_cases ha : chk a = 0
  · have ga := (good_iff a).1 ha
    rw [ha]
    by_cases hb : chk b = 0
    · have gb := (good_iff b).1 hb
      rw [hb]
      simp only [bne_self_eq_false, cond_false, ring_Merge_k1, ref12_Merge_k1]
      by_cases hz : a.Z = b.Z
      · rw [hz]
        simp only [bne_self_eq_false, cond_false]
        by_cases hl : a.Read.length = b.Read.length
        · rw [hl]
          simp only [bne_self_eq_false, cond_false, clone_eq a (by have := ga.hi; omega), copied_eq a (by have := ga.hi; omega), Option.bind_some]
          obtain ⟨r, h1, h2, h3⟩ := merge_loop a b hl FUEL 0 a.Read (by have := ga.hi; rw [FUEL_eq]; omega) (by omega) (by have := ga.hi; omega) rfl (fun _ _ => rfl)
          have h1' : ring_Merge_L2 a b FUEL 0 a.Read = some r := h1
          have h2' : ref12_Merge_L2 b FUEL 0 a.Read = some r := h2
          rw [h1', h2']
          exact ⟨_, rfl, rfl, by have := ga.hi; show r.length ≤ 1000; omega⟩
        · have : (((a.Read.length : Nat) : Int) != ((b.Read.length : Nat) : Int)) = true := by simp; omega
          rw [this]
          exact ⟨_, rfl, rfl, Nat.zero_le _⟩
      · have : (a.Z != b.Z) = true := by simp [hz]
        rw [this]
        exact ⟨_, rfl, rfl, Nat.zero_le _⟩
    · have : (chk b != 0) = true := by simp [hb]
      rw [this]
      exact ⟨_, rfl, rfl, Nat.zero_le _⟩
  · have : (chk a != 0) = true := by simp [ha]
    rw [this]
    exact ⟨_, rfl, rfl, Nat.zero_le _⟩

theorem RingMerges_true (a b : Ring) (_ : wfRing a) (_ : wfRing b) : law12_RingMerges a b = some true := by
  have h1 : law12_RingMerges_k1 a b true = some true := by
    unfold law12_RingMerges_k1
    rw [awake_true]
    rfl
  have h2 : law12_RingMerges_k1 a b false = some true := by
    obtain ⟨r, h1, h2, h3⟩ := merges a b
    unfold law12_RingMerges_k1 law12_RingMerges_k2
    rw [h1, h2, awake_true]
    have h4 : ref12_Same { Z := r.1.Z, Read := r.1.Read } { Z := r.1.Z, Read := r.1.Read } = some true := same_self r.1 h3
    simp only [cond_false, Option.bind_some, h4, cond_true, BEq.rfl]
  unfold law12_RingMerges law12_few
  simp only [Option.bind_some]
  cases decide (((a.Read.length : Nat) : Int) ≤ 100)
  · exact h1
  · cases decide (((b.Read.length : Nat) : Int) ≤ 100)
    · exact h1
    · exact h2
end Saw
end Go.SL
