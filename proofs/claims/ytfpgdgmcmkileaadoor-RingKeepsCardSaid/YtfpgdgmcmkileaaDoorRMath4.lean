/- The ring laws' plain mathematics, part 4: turning. -/
import Derived.Test.YtfpgdgmcmkileaaDoorRMath3
set_option linter.unusedVariables false
set_option linter.unusedSimpArgs false
namespace Go.SL
namespace Saw

theorem ext_getD {α : Type} [Inhabited α] {l t : List α} (h : l.length = t.length) (hj : ∀ j, j < l.length → l.getD j default = t.getD j default) : l = t := by
  apply List.ext_getElem h
  intro i h1 h2
  have := hj i h1
  rwa [List.getD_eq_getElem?_getD, List.getD_eq_getElem?_getD, List.getElem?_eq_getElem h1, List.getElem?_eq_getElem h2] at this
theorem getD_set_eq {α : Type} [Inhabited α] {l : List α} {x : Nat} (v : α) (h : x < l.length) : (l.set x v).getD x default = v := by
  rw [List.getD_eq_getElem?_getD, List.getElem?_set_self h]; rfl
theorem getD_set_ne {α : Type} [Inhabited α] {l : List α} {x j : Nat} (v : α) (h : x ≠ j) : (l.set x v).getD j default = l.getD j default := by
  rw [List.getD_eq_getElem?_getD, List.getElem?_set_ne h, ← List.getD_eq_getElem?_getD]
theorem getD_map {α β : Type} [Inhabited α] [Inhabited β] (f : α → β) (l : List α) {j : Nat} (h : j < l.length) : (l.map f).getD j default = f (l.getD j default) := by
  rw [List.getD_eq_getElem?_getD, List.getD_eq_getElem?_getD, List.getElem?_map, List.getElem?_eq_getElem h]; rfl

/-- A quarter turn, q times. -/
def turnP (q : Nat) (p : Point) : Point := match q with
  | 0 => p
  | 1 => ⟨-p.Y, p.X⟩
  | 2 => ⟨-p.X, -p.Y⟩
  | _ => ⟨p.Y, -p.X⟩

def small (p : Point) : Prop := -600 ≤ p.X ∧ p.X ≤ 600 ∧ -600 ≤ p.Y ∧ p.Y ≤ 600
theorem small_turn {p : Point} (q : Nat) (h : small p) : small (turnP q p) := by
  obtain ⟨h1, h2, h3, h4⟩ := h
  unfold turnP
  split <;> refine ⟨?_, ?_, ?_, ?_⟩ <;> (try simp only) <;> omega

theorem good_small {r : Reading} (h : chkAt r = 0) : small r.P ∧ (r.Ok = false → r.P = ⟨0, 0⟩) := by
  unfold chkAt at h
  cases ho : r.Ok with
  | true =>
    rw [ho] at h
    cases hr : inRange r.P with
    | false => rw [hr] at h; simp at h
    | true =>
      simp only [inRange, Bool.and_eq_true, decide_eq_true_eq] at hr
      exact ⟨⟨hr.1.1, hr.1.2, hr.2.1, hr.2.2⟩, fun h => by cases h⟩
  | false =>
    rw [ho] at h
    cases hz : isZero r.P with
    | false => rw [hz] at h; simp at h
    | true =>
      have : r.P = ⟨0, 0⟩ := by
        obtain ⟨⟨x, y⟩, o⟩ := r
        simp only [isZero, Bool.and_true, Bool.and_eq_true, beq_iff_eq] at hz
        simp only at hz ⊢
        rw [hz.1, hz.2]
      rw [this]
      exact ⟨⟨by decide, by decide, by decide, by decide⟩, fun _ => rfl⟩

/-- The quarter that a turn's number means. -/
theorem quarter_ex (r : Int) : ∃ q : Nat, q < 4 ∧ Int.tmod (w64 (Int.tmod r 4 + 4)) 4 = (q : Int) := by
  have h1 := Int.tmod_lt_of_pos r (show (0 : Int) < 4 by decide)
  have h2 : -4 < Int.tmod r 4 := by
    rcases Int.le_total 0 r with h | h
    · have := Int.tmod_nonneg 4 h; omega
    · have := Int.tmod_nonneg 4 (show 0 ≤ -r by omega)
      have h3 := Int.tmod_lt_of_pos (-r) (show (0 : Int) < 4 by decide)
      rw [Int.neg_tmod] at this h3
      omega
  rw [w64_id (by omega) (by omega)]
  obtain ⟨n, hn⟩ := Int.eq_ofNat_of_zero_le (show 0 ≤ Int.tmod r 4 + 4 by omega)
  rw [hn]
  exact ⟨n % 4, Nat.mod_lt _ (by decide), rfl⟩

theorem canTurn_loop (l : List Point) (hs : ∀ p ∈ l, small p) (h : l.length ≤ 1000) : ∀ (n x : Nat), l.length < x + n → x ≤ l.length → poly_canTurn_L1 l n (x : Int) = some (.inr ())
  | 0, x, h1, h2 => by omega
  | n + 1, x, h1, h2 => by
    unfold poly_canTurn_L1
    by_cases hx : x < l.length
    · have hm : small (l.getD x default) := hs _ (by rw [List.getD_eq_getElem?_getD, List.getElem?_eq_getElem hx]; exact List.getElem_mem hx)
      rw [lt_t hx, inb_t (by omega) (by omega)]
      simp only [cond_true, Int.toNat_natCast, poly_canTurn_k2, w64_succ x (by omega)]
      have e1 : ((l.getD x default).X == -9223372036854775808) = false := beq_eq_false_iff_ne.2 (by have := hm.1; omega)
      have e2 : ((l.getD x default).Y == -9223372036854775808) = false := beq_eq_false_iff_ne.2 (by have := hm.2.2.1; omega)
      rw [e1, e2]
      exact canTurn_loop l hs h n (x + 1) (by omega) (by omega)
    · rw [lt_f hx]; rfl

theorem canTurn_true (l : List Point) (hs : ∀ p ∈ l, small p) (h : l.length ≤ 1000) : poly_canTurn l = some true := by
  unfold poly_canTurn
  have := canTurn_loop l hs h FUEL 0 (by rw [FUEL_eq]; omega) (by omega)
  have h' : poly_canTurn_L1 l FUEL 0 = some (.inr ()) := this
  rw [h']; rfl

theorem turn_formula (q : Nat) (hq : q < 4) (p : Point) (hs : small p) :
    Point.mk (w64 (w64 ((tab_turns.getD q default).X * p.X) - w64 ((tab_turns.getD q default).Y * p.Y))) (w64 (w64 ((tab_turns.getD q default).Y * p.X) + w64 ((tab_turns.getD q default).X * p.Y))) = turnP q p := by
  obtain ⟨h1, h2, h3, h4⟩ := hs
  obtain ⟨x, y⟩ := p
  simp only at h1 h2 h3 h4
  match q, hq with
  | 0, _ =>
    simp only [tab_turns, List.getD_cons_zero, turnP, Int.one_mul, Int.zero_mul]
    rw [w64_id (n := x) (by omega) (by omega), w64_id (n := y) (by omega) (by omega), w64_id (n := 0) (by omega) (by omega), w64_id (by omega) (by omega), w64_id (by omega) (by omega)]
    congr 1 <;> omega
  | 1, _ =>
    simp only [tab_turns, List.getD_cons_zero, List.getD_cons_succ, turnP, Int.one_mul, Int.zero_mul]
    rw [w64_id (n := x) (by omega) (by omega), w64_id (n := y) (by omega) (by omega), w64_id (n := 0) (by omega) (by omega), w64_id (by omega) (by omega), w64_id (by omega) (by omega)]
    congr 1 <;> omega
  | 2, _ =>
    simp only [tab_turns, List.getD_cons_zero, List.getD_cons_succ, turnP, Int.zero_mul]
    rw [w64_id (n := -1 * x) (by omega) (by omega), w64_id (n := -1 * y) (by omega) (by omega), w64_id (n := 0) (by omega) (by omega), w64_id (by omega) (by omega), w64_id (by omega) (by omega)]
    congr 1 <;> omega
  | 3, _ =>
    simp only [tab_turns, List.getD_cons_zero, List.getD_cons_succ, turnP, Int.zero_mul]
    rw [w64_id (n := -1 * x) (by omega) (by omega), w64_id (n := -1 * y) (by omega) (by omega), w64_id (n := 0) (by omega) (by omega), w64_id (by omega) (by omega), w64_id (by omega) (by omega)]
    congr 1 <;> omega

theorem polyTurn_loop (l : List Point) (hs : ∀ p ∈ l, small p) (h : l.length ≤ 1000) (r : Int) (q : Nat) (hq : q < 4) (hr : Int.tmod (w64 (Int.tmod r 4 + 4)) 4 = (q : Int)) :
    ∀ (n x : Nat) (t : List Point), l.length < x + n → x ≤ l.length → t.length = l.length → (∀ j, j < x → t.getD j default = turnP q (l.getD j default)) → poly_Turn_L1 l r n t (x : Int) = some (l.map (turnP q))
  | 0, x, t, h1, h2, _, _ => by omega
  | n + 1, x, t, h1, h2, h3, h4 => by
    unfold poly_Turn_L1
    by_cases hx : x < l.length
    · have hm : small (l.getD x default) := hs _ (by rw [List.getD_eq_getElem?_getD, List.getElem?_eq_getElem hx]; exact List.getElem_mem hx)
      rw [lt_t hx, inb_t (by omega) (by omega), inb_t (by omega) (by omega), hr]
      simp only [cond_true, Int.toNat_natCast, w64_succ x (by omega)]
      rw [turn_formula q hq _ hm]
      refine polyTurn_loop l hs h r q hq hr n (x + 1) _ (by omega) (by omega) (by rw [List.length_set]; exact h3) (fun j hj => ?_)
      by_cases he : x = j
      · subst he; rw [getD_set_eq _ (by omega)]
      · rw [getD_set_ne _ he]; exact h4 j (by omega)
    · rw [lt_f hx]
      have : t = l.map (turnP q) := ext_getD (by simp [h3]) (fun j hj => by rw [h4 j (by omega), getD_map _ _ (by omega)])
      rw [this]; rfl

theorem polyTurn_eq (l : List Point) (hs : ∀ p ∈ l, small p) (h : l.length ≤ 1000) (r : Int) (q : Nat) (hq : q < 4) (hr : Int.tmod (w64 (Int.tmod r 4 + 4)) 4 = (q : Int)) : poly_Turn l r = some (l.map (turnP q)) := by
  unfold poly_Turn
  have hmk : mkOk ((l.length : Nat) : Int) 16 = true := by unfold mkOk; exact decide_eq_true ⟨by omega, by omega, by omega⟩
  have hL := polyTurn_loop l hs h r q hq hr FUEL 0 (List.replicate l.length (Point.mk 0 0)) (by rw [FUEL_eq]; omega) (by omega) (by simp) (fun j hj => by omega)
  have hL' : poly_Turn_L1 l r FUEL (List.replicate l.length (Point.mk 0 0)) 0 = some (l.map (turnP q)) := hL
  rw [canTurn_true l hs h, hr, hmk, inb_t (by omega) (by omega)]
  simp only [Option.bind_some, Bool.not_true, cond_false, cond_true, Int.toNat_natCast, hL']

def turnR (q : Nat) (r : Reading) : Reading := ⟨turnP q r.P, r.Ok⟩
def turned (q : Nat) (a : Ring) : Ring := ⟨a.Z, a.Read.map (turnR q)⟩

theorem ringTurn_L1 (a : Ring) (h : a.Read.length ≤ 1000) : ∀ (n x : Nat) (t : List Point), a.Read.length < x + n → x ≤ a.Read.length → t.length = a.Read.length → (∀ j, j < x → t.getD j default = (a.Read.getD j default).P) →
    ring_Turn_L1 a n t (x : Int) = some (a.Read.map (·.P))
  | 0, x, t, h1, h2, _, _ => by omega
  | n + 1, x, t, h1, h2, h3, h4 => by
    unfold ring_Turn_L1
    by_cases hx : x < a.Read.length
    · rw [lt_t hx, inb_t (by omega) (by omega), inb_t (by omega) (by omega)]
      simp only [cond_true, Int.toNat_natCast, w64_succ x (by omega)]
      refine ringTurn_L1 a h n (x + 1) _ (by omega) (by omega) (by rw [List.length_set]; exact h3) (fun j hj => ?_)
      by_cases he : x = j
      · subst he; rw [getD_set_eq _ (by omega)]
      · rw [getD_set_ne _ he]; exact h4 j (by omega)
    · rw [lt_f hx]
      have : t = a.Read.map (·.P) := ext_getD (by simp [h3]) (fun j hj => by rw [h4 j (by omega), getD_map _ _ (by omega)])
      rw [this]; rfl

theorem ringTurn_L2 (a : Ring) (h : a.Read.length ≤ 1000) (q : Nat) : ∀ (n x : Nat) (t : List Reading), a.Read.length < x + n → x ≤ a.Read.length → t.length = a.Read.length → (∀ j, j < x → t.getD j default = turnR q (a.Read.getD j default)) → (∀ j, x ≤ j → t.getD j default = a.Read.getD j default) →
    ring_Turn_L2 ((a.Read.map (·.P)).map (turnP q)) n (x : Int) t = some (a.Read.map (turnR q))
  | 0, x, t, h1, h2, _, _, _ => by omega
  | n + 1, x, t, h1, h2, h3, h4, h5 => by
    unfold ring_Turn_L2
    rw [List.length_map, List.length_map]
    by_cases hx : x < a.Read.length
    · rw [lt_t hx, inb_t (by omega) (by omega), inb_t (by omega) (by omega)]
      simp only [cond_true, Int.toNat_natCast, w64_succ x (by omega)]
      rw [h5 x (Nat.le_refl _), getD_map _ _ (by simpa using hx), getD_map _ _ hx]
      refine ringTurn_L2 a h q n (x + 1) _ (by omega) (by omega) (by rw [List.length_set]; exact h3) (fun j hj => ?_) (fun j hj => ?_)
      · by_cases he : x = j
        · subst he; rw [getD_set_eq _ (by omega)]; rfl
        · rw [getD_set_ne _ he]; exact h4 j (by omega)
      · rw [getD_set_ne _ (by omega)]; exact h5 j (by omega)
    · rw [lt_f hx]
      have : t = a.Read.map (turnR q) := ext_getD (by simp [h3]) (fun j hj => by rw [h4 j (by omega), getD_map _ _ (by omega)])
      rw [this]; rfl

theorem ring_turn (a : Ring) (r : Int) (g : Good a) (q : Nat) (hq : q < 4) (hr : Int.tmod (w64 (Int.tmod r 4 + 4)) 4 = (q : Int)) : ring_Turn a r = some (turned q a) := by
  have hn := g.hi
  unfold ring_Turn
  have hmk : mkOk ((a.Read.length : Nat) : Int) 16 = true := by unfold mkOk; exact decide_eq_true ⟨by omega, by omega, by omega⟩
  have hL : ring_Turn_L1 a FUEL (List.replicate a.Read.length (Point.mk 0 0)) 0 = some (a.Read.map (·.P)) := ringTurn_L1 a (by omega) FUEL 0 _ (by rw [FUEL_eq]; omega) (by omega) (by simp) (fun j hj => by omega)
  have hL2 : ring_Turn_L2 ((a.Read.map (·.P)).map (turnP q)) FUEL 0 a.Read = some (a.Read.map (turnR q)) := ringTurn_L2 a (by omega) q FUEL 0 _ (by rw [FUEL_eq]; omega) (by omega) rfl (fun j hj => by omega) (fun _ _ => rfl)
  have hp := polyTurn_eq (a.Read.map (·.P)) (fun p hp => by
    obtain ⟨x, hx, rfl⟩ := List.mem_map.1 hp
    exact (good_small (g.all x hx)).1) (by simpa using by omega) r q hq hr
  rw [clone_eq a (by omega), ring_check, (good_iff a).2 g, hmk]
  simp only [Option.bind_some, bne_self_eq_false, cond_false, cond_true, Int.toNat_natCast, hL, hp, hL2]
  rfl

theorem ring_turn_bad (a : Ring) (r : Int) (h : a.Read.length ≤ 1000) (hb : ¬ Good a) : ring_Turn a r = some a := by
  unfold ring_Turn
  have : (chk a != 0) = true := bne_iff_ne.2 (fun h => hb ((good_iff a).1 h))
  rw [clone_eq a h, ring_check]
  simp only [Option.bind_some, this, cond_true]

theorem turned_loop (q : Nat) (hq : q < 4) (p : Point) (hs : small p) : ref09_Turned p (q : Int) = some (turnP q p) := by
  unfold ref09_Turned
  rw [FUEL_eq, show (4611686018427387904 : Nat) = 4611686018427387899 + 1 + 1 + 1 + 1 + 1 from rfl]
  obtain ⟨h1, h2, h3, h4⟩ := hs
  obtain ⟨x, y⟩ := p
  simp only at h1 h2 h3 h4
  have ws : ∀ z : Int, -600 ≤ z → z ≤ 600 → w64 (0 - z) = -z := fun z h1 h2 => by rw [w64_id (by omega) (by omega)]; omega
  have e1 : w64 (0 + 1) = 1 := by kernel_rfl
  have e2 : w64 (1 + 1) = 2 := by kernel_rfl
  have e3 : w64 (2 + 1) = 3 := by kernel_rfl
  have stop : ∀ (n : Nat) (z : Point), ref09_Turned_L1 (q : Int) (n + 1) (q : Int) z = some z := fun n z => by
    rw [ref09_Turned_L1]; simp
  have go : ∀ (n : Nat) (i : Int) (z : Point), i < (q : Int) → ref09_Turned_L1 (q : Int) (n + 1) i z = ref09_Turned_L1 (q : Int) n (w64 (i + 1)) ⟨w64 (0 - z.Y), z.X⟩ := fun n i z hi => by
    rw [ref09_Turned_L1, decide_eq_true hi]; rfl
  match q, hq with
  | 0, _ => rw [show (0 : Int) = ((0 : Nat) : Int) from rfl, stop]; rfl
  | 1, _ =>
    rw [go _ _ _ (by decide), e1, show (1 : Int) = ((1 : Nat) : Int) from rfl, stop]
    simp only [Option.bind_some, turnP, ws y h3 h4]
  | 2, _ =>
    rw [go _ _ _ (by decide), e1, go _ _ _ (by decide), e2, show (2 : Int) = ((2 : Nat) : Int) from rfl, stop]
    simp only [Option.bind_some, turnP, ws y h3 h4, ws x h1 h2]
  | 3, _ =>
    rw [go _ _ _ (by decide), e1, go _ _ _ (by decide), e2, go _ _ _ (by decide), e3, show (3 : Int) = ((3 : Nat) : Int) from rfl, stop]
    simp only [Option.bind_some, turnP, ws y h3 h4, ws x h1 h2, ws (-y) (by omega) (by omega), Int.neg_neg]

theorem turnP_zero (q : Nat) : turnP q ⟨0, 0⟩ = ⟨0, 0⟩ := by
  unfold turnP
  split <;> rfl

theorem refTurn_loop (a : Ring) (g : Good a) (r : Int) (q : Nat) (hq : q < 4) (hr : Int.tmod (w64 (Int.tmod r 4 + 4)) 4 = (q : Int)) : ∀ (n x : Nat) (t : List Reading), a.Read.length < x + n → x ≤ a.Read.length → t.length = a.Read.length → (∀ j, j < x → t.getD j default = turnR q (a.Read.getD j default)) → (∀ j, x ≤ j → t.getD j default = a.Read.getD j default) →
    ref12_Turn_L1 r n (x : Int) t = some (a.Read.map (turnR q))
  | 0, x, t, h1, h2, _, _, _ => by omega
  | n + 1, x, t, h1, h2, h3, h4, h5 => by
    have hn := g.hi
    unfold ref12_Turn_L1
    rw [h3]
    by_cases hx : x < a.Read.length
    · have hmem : a.Read.getD x default ∈ a.Read := by rw [List.getD_eq_getElem?_getD, List.getElem?_eq_getElem hx]; exact List.getElem_mem hx
      have hm := good_small (g.all _ hmem)
      rw [lt_t hx, inb_t (by omega) (by omega)]
      simp only [cond_true, Int.toNat_natCast, w64_succ x (by omega), ref12_Turn_k2, h5 x (Nat.le_refl _), ref09_Quarters, hr, Option.bind_some, turned_loop q hq _ hm.1]
      cases ho : (a.Read.getD x default).Ok with
      | true =>
        refine refTurn_loop a g r q hq hr n (x + 1) _ (by omega) (by omega) (by rw [List.length_set]; exact h3) (fun j hj => ?_) (fun j hj => ?_)
        · by_cases he : x = j
          · subst he; rw [getD_set_eq _ (by omega)]; unfold turnR; rw [ho]
          · rw [getD_set_ne _ he]; exact h4 j (by omega)
        · rw [getD_set_ne _ (by omega)]; exact h5 j (by omega)
      | false =>
        refine refTurn_loop a g r q hq hr n (x + 1) t (by omega) (by omega) h3 (fun j hj => ?_) (fun j hj => h5 j (by omega))
        by_cases he : x = j
        · subst he
          rw [h5 x (Nat.le_refl _)]
          unfold turnR
          rw [hm.2 ho, turnP_zero, ← hm.2 ho]
        · exact h4 j (by omega)
    · rw [lt_f hx]
      have : t = a.Read.map (turnR q) := ext_getD (by simp [h3]) (fun j hj => by rw [h4 j (by omega), getD_map _ _ (by omega)])
      rw [this]; rfl

theorem ref_turn (a : Ring) (r : Int) (g : Good a) (q : Nat) (hq : q < 4) (hr : Int.tmod (w64 (Int.tmod r 4 + 4)) 4 = (q : Int)) : ref12_Turn a r = some (turned q a) := by
  have hn := g.hi
  unfold ref12_Turn
  have hL : ref12_Turn_L1 r FUEL 0 a.Read = some (a.Read.map (turnR q)) := refTurn_loop a g r q hq hr FUEL 0 _ (by rw [FUEL_eq]; omega) (by omega) rfl (fun j hj => by omega) (fun _ _ => rfl)
  rw [copied_eq a (by omega), ref_check, (good_iff a).2 g]
  simp only [Option.bind_some, bne_self_eq_false, cond_false, hL]
  rfl
theorem ref_turn_bad (a : Ring) (r : Int) (h : a.Read.length ≤ 1000) (hb : ¬ Good a) : ref12_Turn a r = some a := by
  unfold ref12_Turn
  have : (chk a != 0) = true := bne_iff_ne.2 (fun h => hb ((good_iff a).1 h))
  rw [copied_eq a h, ref_check]
  simp only [Option.bind_some, this, cond_true]

theorem turns_same (a : Ring) (r : Int) (h : a.Read.length ≤ 1000) : ∃ b, ring_Turn a r = some b ∧ ref12_Turn a r = some b ∧ b.Read.length = a.Read.length := by
  obtain ⟨q, hq, hr⟩ := quarter_ex r
  by_cases g : Good a
  · exact ⟨_, ring_turn a r g q hq hr, ref_turn a r g q hq hr, by simp [turned]⟩
  · exact ⟨_, ring_turn_bad a r h g, ref_turn_bad a r h g, rfl⟩

theorem RingCleans_true (a : Ring) (r t : Int) (_ : wfRing a) (_ : i64ok r) (_ : i64ok t) : law12_RingCleans a r t = some true := by
  unfold law12_RingCleans law12_few law12_RingCleans_k1
  simp only [Option.bind_some, awake_true]
  by_cases h : ((a.Read.length : Nat) : Int) ≤ 100
  · rw [decide_eq_true h]
    obtain ⟨b, h1, h2, h3⟩ := turns_same a t (by omega)
    have h4 := same_self b (by omega)
    have h5 := same_self (cleaned a r) (by rw [cleaned_len]; omega)
    have h4' : ref12_Same { Z := b.Z, Read := b.Read } { Z := b.Z, Read := b.Read } = some true := h4
    have h5' : ref12_Same { Z := (cleaned a r).Z, Read := (cleaned a r).Read } { Z := (cleaned a r).Z, Read := (cleaned a r).Read } = some true := h5
    simp only [ring_clean a r (by omega), ref_clean a r (by omega), h1, h2, h4', h5', Option.bind_some, Bool.not_true, cond_false, cond_true]
  · rw [decide_eq_false h]
    rfl
end Saw
end Go.SL
