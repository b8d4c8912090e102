/- Poly's plain mathematics, part 2: turning, mirroring. -/
import Derived.Test.YtcppgjcniljkcaaDoorPMath1
import Derived.Test.YtcppgjcniljkcaaDoorMBase2
set_option linter.unusedVariables false
set_option linter.unusedSimpArgs false
namespace Go.SL
namespace Saw

/-- A quarter turn, q times. -/
def turnP (q : Nat) (p : Point) : Point := match q with
  | 0 => p
  | 1 => ⟨-p.Y, p.X⟩
  | 2 => ⟨-p.X, -p.Y⟩
  | _ => ⟨p.Y, -p.X⟩

def negOk (p : Point) : Prop := -9223372036854775807 ≤ p.X ∧ p.X ≤ 9223372036854775807 ∧ -9223372036854775807 ≤ p.Y ∧ p.Y ≤ 9223372036854775807
def canT (p : Point) : Bool := !(p.X == -9223372036854775808) && !(p.Y == -9223372036854775808)
theorem canT_loop (a : List Point) (hl : a.length ≤ 1000000) : ∀ (n x : Nat), a.length < x + n → x ≤ a.length → poly_canTurn_L1 a n (x : Int) = some (wrapB ((a.drop x).all canT)) ∧ ref09_negative_L1 a n (x : Int) = some (wrapB ((a.drop x).all canT))
  | 0, x, h1, h2 => by omega
  | n + 1, x, h1, h2 => by
    unfold poly_canTurn_L1 ref09_negative_L1
    by_cases hx : x < a.length
    · obtain ⟨ih1, ih2⟩ := canT_loop a hl n (x + 1) (by omega) (by omega)
      rw [lt_t (by omega), inb_t (by omega) (by omega), drop_getD a x hx]
      simp only [cond_true, Int.toNat_natCast, poly_canTurn_k2, ref09_negative_k2, inc_eq (show x < 4611686018427387904 by omega), ih1, ih2, List.all_cons, canT]
      cases ((a.getD x default).X == -9223372036854775808) <;> cases ((a.getD x default).Y == -9223372036854775808) <;> simp [wrapB]
    · rw [lt_f (by omega), List.drop_of_length_le (by omega)]
      exact ⟨rfl, rfl⟩
theorem canT_eq (a : List Point) (hl : a.length ≤ 1000000) : poly_canTurn a = some (a.all canT) ∧ ref09_negative a = some (a.all canT) := by
  obtain ⟨h1, h2⟩ := canT_loop a hl FUEL 0 (by rw [FUEL_eq]; omega) (by omega)
  rw [show ((0 : Nat) : Int) = 0 from rfl, List.drop_zero] at h1 h2
  unfold poly_canTurn ref09_negative
  rw [h1, h2]
  cases a.all canT <;> exact ⟨rfl, rfl⟩
theorem turn_formula (q : Nat) (hq : q < 4) (p : Point) (hs : negOk p) :
    Point.mk (w64 (w64 ((tab_turns.getD q default).X * p.X) - w64 ((tab_turns.getD q default).Y * p.Y))) (w64 (w64 ((tab_turns.getD q default).Y * p.X) + w64 ((tab_turns.getD q default).X * p.Y))) = turnP q p := by
  obtain ⟨h1, h2, h3, h4⟩ := hs
  obtain ⟨x, y⟩ := p
  simp only at h1 h2 h3 h4
  match q, hq with
  | 0, _ =>
    simp only [tab_turns, List.getD_cons_zero, turnP, Int.one_mul, Int.zero_mul]
    rw [w64_id (n := x) (by omega) (by omega), w64_id (n := y) (by omega) (by omega), w64_id (n := 0) (by omega) (by omega), w64_id (by omega) (by omega), w64_id (by omega) (by omega)]
    congr 1 <;> omega
  | 1, _ =>
    simp only [tab_turns, List.getD_cons_zero, List.getD_cons_succ, turnP, Int.one_mul, Int.zero_mul]
    rw [w64_id (n := x) (by omega) (by omega), w64_id (n := y) (by omega) (by omega), w64_id (n := 0) (by omega) (by omega), w64_id (by omega) (by omega), w64_id (by omega) (by omega)]
    congr 1 <;> omega
  | 2, _ =>
    simp only [tab_turns, List.getD_cons_zero, List.getD_cons_succ, turnP, Int.zero_mul]
    rw [w64_id (n := -1 * x) (by omega) (by omega), w64_id (n := -1 * y) (by omega) (by omega), w64_id (n := 0) (by omega) (by omega), w64_id (by omega) (by omega), w64_id (by omega) (by omega)]
    congr 1 <;> omega
  | 3, _ =>
    simp only [tab_turns, List.getD_cons_zero, List.getD_cons_succ, turnP, Int.zero_mul]
    rw [w64_id (n := -1 * x) (by omega) (by omega), w64_id (n := -1 * y) (by omega) (by omega), w64_id (n := 0) (by omega) (by omega), w64_id (by omega) (by omega), w64_id (by omega) (by omega)]
    congr 1 <;> omega

theorem polyTurn_loop (l : List Point) (hs : ∀ p ∈ l, negOk p) (h : l.length ≤ 1000000) (r : Int) (q : Nat) (hq : q < 4) (hr : Int.tmod (w64 (Int.tmod r 4 + 4)) 4 = (q : Int)) :
    ∀ (n x : Nat) (t : List Point), l.length < x + n → x ≤ l.length → t.length = l.length → (∀ j, j < x → t.getD j default = turnP q (l.getD j default)) → poly_Turn_L1 l r n t (x : Int) = some (l.map (turnP q))
  | 0, x, t, h1, h2, _, _ => by omega
  | n + 1, x, t, h1, h2, h3, h4 => by
    unfold poly_Turn_L1
    by_cases hx : x < l.length
    · have hm : negOk (l.getD x default) := hs _ (by rw [List.getD_eq_getElem?_getD, List.getElem?_eq_getElem hx]; exact List.getElem_mem hx)
      rw [lt_t (by omega), inb_t (by omega) (by omega), inb_t (by omega) (by omega), hr]
      simp only [cond_true, Int.toNat_natCast, inc_eq (show x < 4611686018427387904 by omega)]
      rw [turn_formula q hq _ hm]
      refine polyTurn_loop l hs h r q hq hr n (x + 1) _ (by omega) (by omega) (by rw [List.length_set]; exact h3) (fun j hj => ?_)
      by_cases he : x = j
      · subst he; rw [getD_set_eq _ (by omega)]
      · rw [getD_set_ne _ he]; exact h4 j (by omega)
    · rw [lt_f (by omega)]
      have : t = l.map (turnP q) := ext_getD (by simp [h3]) (fun j hj => by rw [h4 j (by omega), getD_map _ _ (by omega)])
      rw [this]; rfl

theorem turned_loop (q : Nat) (hq : q < 4) (p : Point) (hs : negOk p) : ref09_Turned p (q : Int) = some (turnP q p) := by
  unfold ref09_Turned
  rw [FUEL_eq, show (4611686018427387904 : Nat) = 4611686018427387899 + 1 + 1 + 1 + 1 + 1 from rfl]
  obtain ⟨h1, h2, h3, h4⟩ := hs
  obtain ⟨x, y⟩ := p
  simp only at h1 h2 h3 h4
  have ws : ∀ z : Int, -9223372036854775807 ≤ z → z ≤ 9223372036854775807 → w64 (0 - z) = -z := fun z h1 h2 => by rw [w64_id (by omega) (by omega)]; omega
  have e1 : w64 (0 + 1) = 1 := by kernel_rfl
  have e2 : w64 (1 + 1) = 2 := by kernel_rfl
  have e3 : w64 (2 + 1) = 3 := by kernel_rfl
  have stop : ∀ (n : Nat) (z : Point), ref09_Turned_L1 (q : Int) (n + 1) (q : Int) z = some z := fun n z => by
    rw [ref09_Turned_L1]; simp
  have go : ∀ (n : Nat) (i : Int) (z : Point), i < (q : Int) → ref09_Turned_L1 (q : Int) (n + 1) i z = ref09_Turned_L1 (q : Int) n (w64 (i + 1)) ⟨w64 (0 - z.Y), z.X⟩ := fun n i z hi => by
    rw [ref09_Turned_L1, decide_eq_true hi]; rfl
  match q, hq with
  | 0, _ => rw [show (0 : Int) = ((0 : Nat) : Int) from rfl, stop]; rfl
  | 1, _ =>
    rw [go _ _ _ (by decide), e1, show (1 : Int) = ((1 : Nat) : Int) from rfl, stop]
    simp only [Option.bind_some, turnP, ws y h3 h4]
  | 2, _ =>
    rw [go _ _ _ (by decide), e1, go _ _ _ (by decide), e2, show (2 : Int) = ((2 : Nat) : Int) from rfl, stop]
    simp only [Option.bind_some, turnP, ws y h3 h4, ws x h1 h2]
  | 3, _ =>
    rw [go _ _ _ (by decide), e1, go _ _ _ (by decide), e2, go _ _ _ (by decide), e3, show (3 : Int) = ((3 : Nat) : Int) from rfl, stop]
    simp only [Option.bind_some, turnP, ws y h3 h4, ws x h1 h2, ws (-y) (by omega) (by omega), Int.neg_neg]


theorem refTurn_loop (l : List Point) (hs : ∀ p ∈ l, negOk p) (h : l.length ≤ 1000000) (r : Int) (q : Nat) (hq : q < 4) (hr : Int.tmod (w64 (Int.tmod r 4 + 4)) 4 = (q : Int)) :
    ∀ (n x : Nat) (t : List Point), l.length < x + n → x ≤ l.length → t = (l.take x).map (turnP q) → ref09_Turn_L1 l r n t (x : Int) = some (l.map (turnP q))
  | 0, x, t, h1, h2, _ => by omega
  | n + 1, x, t, h1, h2, h3 => by
    unfold ref09_Turn_L1
    by_cases hx : x < l.length
    · have ht : t.length = x := by rw [h3]; simp; omega
      rw [lt_t (by omega), inb_t (by omega) (by omega), ref09_Quarters, hr, room_t (by omega)]
      simp only [cond_true, Int.toNat_natCast, Option.bind_some, turned_loop q hq _ (hs _ (getD_mem' hx)), inc_eq (show x < 4611686018427387904 by omega)]
      refine refTurn_loop l hs h r q hq hr n (x + 1) _ (by omega) (by omega) ?_
      rw [h3, List.take_add_one, List.map_append]
      congr 1
      rw [List.getElem?_eq_getElem hx, List.getD_eq_getElem?_getD, List.getElem?_eq_getElem hx]
      rfl
    · rw [lt_f (by omega), h3, List.take_of_length_le (by omega)]
      rfl
theorem i64_neg {p : Point} (h : canT p = true) (hw : i64ok p.X ∧ i64ok p.Y) : negOk p := by
  unfold canT at h
  simp only [Bool.and_eq_true, Bool.not_eq_true', beq_eq_false_iff_ne] at h
  obtain ⟨⟨h1, h2⟩, h3, h4⟩ := hw
  obtain ⟨h5, h6⟩ := h
  exact ⟨by omega, by omega, by omega, by omega⟩
theorem all_neg {a : List Point} (h : a.all canT = true) (hw : ∀ p ∈ a, i64ok p.X ∧ i64ok p.Y) : ∀ p ∈ a, negOk p := fun p hp => i64_neg (List.all_eq_true.1 h p hp) (hw p hp)
def turns (a : List Point) (q : Nat) : List Point := bif a.all canT then a.map (turnP q) else []
theorem turn_eq (a : List Point) (hl : a.length ≤ 1000000) (hw : ∀ p ∈ a, i64ok p.X ∧ i64ok p.Y) (r : Int) (q : Nat) (hq : q < 4) (hr : Int.tmod (w64 (Int.tmod r 4 + 4)) 4 = (q : Int)) : poly_Turn a r = some (turns a q) ∧ ref09_Turn a r = some (turns a q) := by
  unfold poly_Turn ref09_Turn turns
  rw [(canT_eq a hl).1, (canT_eq a hl).2]
  simp only [Option.bind_some]
  cases hc : a.all canT with
  | false => exact ⟨rfl, rfl⟩
  | true =>
    have hs := all_neg hc hw
    have h1 := polyTurn_loop a hs hl r q hq hr FUEL 0 (List.replicate a.length (Point.mk 0 0)) (by rw [FUEL_eq]; omega) (by omega) (by simp) (fun j hj => by omega)
    have h2 := refTurn_loop a hs hl r q hq hr FUEL 0 [] (by rw [FUEL_eq]; omega) (by omega) (by simp)
    rw [show ((0 : Nat) : Int) = 0 from rfl] at h1 h2
    rw [hr, mkOk_t (by omega) (by omega), inb_t (by omega) (by omega), h2]
    simp only [Bool.not_true, cond_false, cond_true, Int.toNat_natCast, h1, Option.bind_some, and_self]

def mirP (p : Point) : Point := ⟨-p.X, p.Y⟩
theorem polyMirror_loop (l : List Point) (hs : ∀ p ∈ l, negOk p) (h : l.length ≤ 1000000) :
    ∀ (n x : Nat) (t : List Point), l.length < x + n → x ≤ l.length → t.length = l.length → (∀ j, j < x → t.getD (l.length - 1 - j) default = mirP (l.getD j default)) → poly_Mirror_L1 l n t (x : Int) = some ((l.map mirP).reverse)
  | 0, x, t, h1, h2, _, _ => by omega
  | n + 1, x, t, h1, h2, h3, h4 => by
    unfold poly_Mirror_L1
    by_cases hx : x < l.length
    · have hm := hs _ (getD_mem' hx)
      have e1 : w64 (((l.length : Nat) : Int) - 1) = ((l.length - 1 : Nat) : Int) := by rw [w64_id (by omega) (by omega)]; omega
      have e2 : w64 (((l.length - 1 : Nat) : Int) - (x : Int)) = ((l.length - 1 - x : Nat) : Int) := by rw [w64_id (by omega) (by omega)]; omega
      rw [lt_t (by omega), e1, e2, inb_t (by omega) (by omega), inb_t (by omega) (by omega)]
      have e3 : w64 (0 - (l.getD x default).X) = -(l.getD x default).X := by have := hm.1; have := hm.2.1; rw [w64_id (by omega) (by omega)]; omega
      simp only [cond_true, Int.toNat_natCast, inc_eq (show x < 4611686018427387904 by omega), e3]
      refine polyMirror_loop l hs h n (x + 1) _ (by omega) (by omega) (by rw [List.length_set]; exact h3) (fun j hj => ?_)
      by_cases he : x = j
      · subst he; rw [getD_set_eq _ (by omega)]; rfl
      · rw [getD_set_ne _ (by omega)]; exact h4 j (by omega)
    · rw [lt_f (by omega)]
      have : t = (l.map mirP).reverse := by
        refine ext_getD (by simp [h3]) (fun j hj => ?_)
        have := h4 (l.length - 1 - j) (by omega)
        rw [show l.length - 1 - (l.length - 1 - j) = j by omega] at this
        rw [this, List.getD_eq_getElem?_getD (l := (l.map mirP).reverse), List.getElem?_reverse (by simp; omega), ← List.getD_eq_getElem?_getD, List.length_map, getD_map _ _ (by omega)]
      rw [this]; rfl
theorem refMirror_loop (l : List Point) (hs : ∀ p ∈ l, negOk p) (h : l.length ≤ 1000000) :
    ∀ (n x : Nat) (t : List Point), x < n → x ≤ l.length → t = ((l.drop x).map mirP).reverse → ref09_Mirror_L1 l n t ((x : Int) - 1) = some ((l.map mirP).reverse)
  | 0, x, t, h1, h2, _ => by omega
  | n + 1, 0, t, h1, h2, h3 => by
    unfold ref09_Mirror_L1
    rw [decide_eq_false (by omega), h3]
    rfl
  | n + 1, x + 1, t, h1, h2, h3 => by
    unfold ref09_Mirror_L1
    have hx : x < l.length := by omega
    have hm := hs _ (getD_mem' hx)
    have ht : t.length ≤ 1000000 := by rw [h3]; simp; omega
    have e3 : w64 (0 - (l.getD x default).X) = -(l.getD x default).X := by have := hm.1; have := hm.2.1; rw [w64_id (by omega) (by omega)]; omega
    have e0 : (((x + 1 : Nat) : Int) - 1) = (x : Int) := by omega
    have e4 : w64 ((x : Int) - 1) = (x : Int) - 1 := w64_id (by omega) (by omega)
    rw [e0, decide_eq_true (by omega), inb_t (by omega) (by omega), room_t (by omega)]
    simp only [cond_true, Int.toNat_natCast, e3, e4]
    refine refMirror_loop l hs h n x _ (by omega) (by omega) ?_
    rw [drop_getD l x hx, List.map_cons, List.reverse_cons, h3]
    rfl
def mirror (a : List Point) : List Point := bif a.all canT then (a.map mirP).reverse else []
theorem mirror_eq (a : List Point) (hl : a.length ≤ 1000000) (hw : ∀ p ∈ a, i64ok p.X ∧ i64ok p.Y) : poly_Mirror a = some (mirror a) ∧ ref09_Mirror a = some (mirror a) := by
  unfold poly_Mirror ref09_Mirror mirror
  rw [(canT_eq a hl).1, (canT_eq a hl).2]
  simp only [Option.bind_some]
  cases hc : a.all canT with
  | false => exact ⟨rfl, rfl⟩
  | true =>
    have hs := all_neg hc hw
    have h1 := polyMirror_loop a hs hl FUEL 0 (List.replicate a.length (Point.mk 0 0)) (by rw [FUEL_eq]; omega) (by omega) (by simp) (fun j hj => by omega)
    have h2 := refMirror_loop a hs hl FUEL a.length [] (by rw [FUEL_eq]; omega) (by omega) (by simp)
    rw [show ((0 : Nat) : Int) = 0 from rfl] at h1
    rw [mkOk_t (by omega) (by omega), w64_id (n := ((a.length : Nat) : Int) - 1) (by omega) (by omega), h2]
    simp only [Bool.not_true, cond_false, cond_true, Int.toNat_natCast, h1, Option.bind_some, and_self]

theorem same_loop (a : List Point) (hl : a.length ≤ 1000000) : ∀ (n x : Nat), a.length < x + n → x ≤ a.length → ref09_Same_L1 a a n (x : Int) = some (.inr ())
  | 0, x, h1, h2 => by omega
  | n + 1, x, h1, h2 => by
    unfold ref09_Same_L1
    by_cases hx : x < a.length
    · rw [lt_t (by omega), inb_t (by omega) (by omega)]
      simp only [cond_true, Int.toNat_natCast, beq_self_eq_true, Bool.and_true, Bool.not_true, cond_false, inc_eq (show x < 4611686018427387904 by omega)]
      exact same_loop a hl n (x + 1) (by omega) (by omega)
    · rw [lt_f (by omega)]
      rfl
theorem same_self (a : List Point) (hl : a.length ≤ 1000000) : ref09_Same a a = some true := by
  unfold ref09_Same
  have h := same_loop a hl FUEL 0 (by rw [FUEL_eq]; omega) (by omega)
  rw [show ((0 : Nat) : Int) = 0 from rfl] at h
  rw [h]
  simp
theorem turns_len (a : List Point) (q : Nat) : (turns a q).length ≤ a.length := by unfold turns; cases a.all canT <;> simp
theorem mirror_len (a : List Point) : (mirror a).length ≤ a.length := by unfold mirror; cases a.all canT <;> simp

theorem PolyTurns_true (a : List Point) (r : Int) (hw : a.length ≤ maxLen ∧ ∀ p ∈ a, i64ok p.X ∧ i64ok p.Y) (_ : i64ok r) : law09_PolyTurns a r = some true := by
  unfold law09_PolyTurns law09_few
  simp only [Option.bind_some]
  by_cases h : ((a.length : Nat) : Int) ≤ 100
  · obtain ⟨q, hq, hr⟩ := quarter_ex r
    have t := turn_eq a (by omega) hw.2 r q hq hr
    have m := mirror_eq a (by omega) hw.2
    have l1 := turns_len a q
    have l2 := mirror_len a
    rw [decide_eq_true h]
    simp only [Bool.not_true, cond_false, t.1, t.2, m.1, m.2, Option.bind_some, same_self _ (show (turns a q).length ≤ 1000000 by omega), same_self _ (show (mirror a).length ≤ 1000000 by omega), cond_true, awake_true, law09_PolyTurns_k1]
  · rw [decide_eq_false h]
    simp only [Bool.not_false, cond_true, awake_true, Option.bind_some]
end Saw
end Go.SL
