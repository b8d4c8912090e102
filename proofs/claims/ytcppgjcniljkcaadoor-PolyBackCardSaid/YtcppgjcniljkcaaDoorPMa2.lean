/- Poly's plain mathematics, part 2: turning, mirroring. -/
import Derived.Test.YtcppgjcniljkcaaDoorPMa1
set_option linter.unusedVariables false
set_option linter.unusedSimpArgs false
namespace Go.SL
namespace Saw

/-- A quarter turn, q times. -/
def turnP (q : Nat) (p : Point) : Point := match q with
  | 0 => p
  | 1 => ⟨-p.Y, p.X⟩
  | 2 => ⟨-p.X, -p.Y⟩
  | _ => ⟨p.Y, -p.X⟩

def negOk (p : Point) : Prop := -9223372036854775807 ≤ p.X ∧ p.X ≤ 9223372036854775807 ∧ -9223372036854775807 ≤ p.Y ∧ p.Y ≤ 9223372036854775807
def canT (p : Point) : Bool := !(p.X == -9223372036854775808) && !(p.Y == -9223372036854775808)
theorem canT_loop (a : List Point) (hl : a.length ≤ 1000000) : ∀ (n x : Nat), a.length < x + n → x ≤ a.length → poly_canTurn_L1 a n (x : Int) = some (wrapB ((a.drop x).all canT)) ∧ ref09_negative_L1 a n (x : Int) = some (wrapB ((a.drop x).all canT))
  | 0, x, h1, h2 => by omega
  | n + 1, x, h1, h2 => by
    unfold poly_canTurn_L1 ref09_negative_L1
    by_cases hx : x < a.length
    · obtain ⟨ih1, ih2⟩ := canT_loop a hl n (x + 1) (by omega) (by omega)
      rw [lt_t (by omega), inb_t (by omega) (by omega), drop_getD a x hx]
      simp only [cond_true, Int.toNat_natCast, poly_canTurn_k2, ref09_negative_k2, inc_eq (show x < 4611686018427387904 by omega), ih1, ih2, List.all_cons, canT]
      cases ((a.getD x default).X == -9223372036854775808) <;> cases ((a.getD x default).Y == -9223372036854775808) <;> simp [wrapB]
    · rw [lt_f (by omega), List.drop_of_length_le (by omega)]
      exact ⟨rfl, rfl⟩
theorem canT_eq (a : List Point) (hl : a.length ≤ 1000000) : poly_canTurn a = some (a.all canT) ∧ ref09_negative a = some (a.all canT) := by
  obtain ⟨h1, h2⟩ := canT_loop a hl FUEL 0 (by rw [FUEL_eq]; omega) (by omega)
  rw [show ((0 : Nat) : Int) = 0 from rfl, List.drop_zero] at h1 h2
  unfold poly_canTurn ref09_negative
  rw [h1, h2]
  cases a.all canT <;> exact ⟨rfl, rfl⟩
theorem turn_formula (q : Nat) (hq : q < 4) (p : Point) (hs : negOk p) :
    Point.mk (w64 (w64 ((tab_turns.getD q default).X * p.X) - w64 ((tab_turns.getD q default).Y * p.Y))) (w64 (w64 ((tab_turns.getD q default).Y * p.X) + w64 ((tab_turns.getD q default).X * p.Y))) = turnP q p := by
  obtain ⟨h1, h2, h3, h4⟩ := hs
  obtain ⟨x, y⟩ := p
  simp only at h1 h2 h3 h4
  match q, hq with
  | 0, _ =>
    simp only [tab_turns, List.getD_cons_zero, turnP, Int.one_mul, Int.zero_mul]
    rw [w64_id (n := x) (by omega) (by omega), w64_id (n := y) (by omega) (by omega), w64_id (n := 0) (by omega) (by omega), w64_id (by omega) (by omega), w64_id (by omega) (by omega)]
    congr 1 <;> omega
  | 1, _ =>
    simp only [tab_turns, List.getD_cons_zero, List.getD_cons_succ, turnP, Int.one_mul, Int.zero_mul]
    rw [w64_id (n := x) (by omega) (by omega), w64_id (n := y) (by omega) (by omega), w64_id (n := 0) (by omega) (by omega), w64_id (by omega) (by omega), w64_id (by omega) (by omega)]
    congr 1 <;> omega
  | 2, _ =>
    simp only [tab_turns, List.getD_cons_zero, List.getD_cons_succ, turnP, Int.zero_mul]
    rw [w64_id (n := -1 * x) (by omega) (by omega), w64_id (n := -1 * y) (by omega) (by omega), w64_id (n := 0) (by omega) (by omega), w64_id (by omega) (by omega), w64_id (by omega) (by omega)]
    congr 1 <;> omega
  | 3, _ =>
    simp only [tab_turns, List.getD_cons_zero, List.getD_cons_succ, turnP, Int.zero_mul]
    rw [w64_id (n := -1 * x) (by omega) (by omega), w64_id (n := -1 * y) (by omega) (by omega), w64_id (n := 0) (by omega) (by omega), w64_id (by omega) (by omega), w64_id (by omega) (by omega)]
    congr 1 <;> omega

theorem polyTurn_loop (l : List Point) (hs : ∀ p ∈ l, negOk p) (h : l.length ≤ 1000000) (r : Int) (q : Nat) (hq : q < 4) (hr : Int.tmod (w64 (Int.tmod r 4 + 4)) 4 = (q : Int)) :
    ∀ (n x : Nat) (t : List Point), l.length < x + n → x ≤ l.length → t.length = l.length → (∀ j, j < x → t.getD j default = turnP q (l.getD j default)) → poly_Turn_L1 l r n t (x : Int) = some (l.map (turnP q))
  | 0, x, t, h1, h2, _, _ => by omega
  | n + 1, x, t, h1, h2, h3, h4 => by
    unfold poly_Turn_L1
    by_cases hx : x < l.length
    · have hm : negOk (l.getD x default) := hs _ (by rw [List.getD_eq_getElem?_getD, List.getElem?_eq_getElem hx]; exact List.getElem_mem hx)
      rw [lt_t (by omega), inb_t (by omega) (by omega), inb_t (by omega) (by omega), hr]
      simp only [cond_true, Int.toNat_natCast, inc_eq (show x < 4611686018427387904 by omega)]
      rw [turn_formula q hq _ hm]
      refine polyTurn_loop l hs h r q hq hr n (x + 1) _ (by omega) (by omega) (by rw [List.length_set]; exact h3) (fun j hj => ?_)
      by_cases he : x = j
      · subst he; rw [getD_set_eq _ (by omega)]
      · rw [getD_set_ne _ he]; exact h4 j (by omega)
    · rw [lt_f (by omega)]
      have : t = l.map (turnP q) := ext_getD (by simp [h3]) (fun j hj => by rw [h4 j (by omega), getD_map _ _ (by omega)])
      rw [this]; rfl

theorem turned_loop (q : Nat) (hq : q < 4) (p : Point) (hs : negOk p) : ref09_Turned p (q : Int) = some (turnP q p) := by
  unfold ref09_Turned
  rw [FUEL_eq, show (4611686018427387904 : Nat) = 4611686018427387899 + 1 + 1 + 1 + 1 + 1 from rfl]
  obtain ⟨h1, h2, h3, h4⟩ := hs
  obtain ⟨x, y⟩ := p
  simp only at h1 h2 h3 h4
  have ws : ∀ z : Int, -9223372036854775807 ≤ z → z ≤ 9223372036854775807 → w64 (0 - z) = -z := fun z h1 h2 => by rw [w64_id (by omega) (by omega)]; omega
  have e1 : w64 (0 + 1) = 1 := by kernel_rfl
  have e2 : w64 (1 + 1) = 2 := by kernel_rfl
  have e3 : w64 (2 + 1) = 3 := by kernel_rfl
  have stop : ∀ (n : Nat) (z : Point), ref09_Turned_L1 (q : Int) (n + 1) (q : Int) z = some z := fun n z => by
    rw [ref09_Turned_L1]; simp
  have go : ∀ (n : Nat) (i : Int) (z : Point), i < (q : Int) → ref09_Turned_L1 (q : Int) (n + 1) i z = ref09_Turned_L1 (q : Int) n (w64 (i + 1)) ⟨w64 (0 - z.Y), z.X⟩ := fun n i z hi => by
    rw [ref09_Turned_L1, decide_eq_true hi]; rfl
  match q, hq with
  | 0, _ => rw [show (0 : Int) = ((0 : Nat) : Int) from rfl, stop]; rfl
  | 1, _ =>
    rw [go _ _ _ (by decide), e1, show (1 : Int) = ((1 : Nat) : Int) from rfl, stop]
    simp only [Option.bind_some, turnP, ws y h3 h4]
  | 2, _ =>
    rw [go _ _ _ (by decide), e1, go _ _ _ (by decide), e2, show (2 : Int) = ((2 : Nat) : Int) from rfl, stop]
    simp only [Option.bind_some, turnP, ws y h3 h4, ws x h1 h2]
  | 3, _ =>
    rw [go _ _ _ (by decide), e1, go _ _ _ (by decide), e2, go _ _ _ (by decide), e3, show (3 : Int) = ((3 : Nat) : Int) from rfl, stop]
    simp only [Option.bind_some, turnP, ws y h3 h4, ws x h1 h2, ws (-y) (by omega) (by omega), Int.neg_neg]


theorem refTurn_loop (l : List Point) (hs : ∀ p ∈ l, negOk p) (h : l.length ≤ 1000000) (r : Int) (q : Nat) (hq : q < 4) (hr : Int.tmod (w64 (Int.tmod r 4 + 4)) 4 = (q : Int)) :
    ∀ (n x : Nat) (t : List Point), l.length < x + n → x ≤ l.length → t = (l.take x).map (turnP q) → ref09_Turn_L1 l r n t (x : Int) = some (l.map (turnP q))
  | 0, x, t, h1, h2, _ => by omega
  | n + 1, x, t, h1, h2, h3 => by
    unfold ref09_Turn_L1
    by_cases hx : x < l.length
    · have ht : t.length = x := by rw [h3]; simp; omega
      rw [lt_t (by omega), inb_t (by omega) (by omega), ref09_Quarters, hr, room_t (by omega)]
      simp only [cond_true, Int.toNat_natCast, Option.bind_some, turned_loop q hq _ (hs _ (getD_mem' hx)), inc_eq (show x < 4611686018427387904 by omega)]
      refine refTurn_loop l hs h r q hq hr n (x + 1) _ (by omega) (by omega) ?_
      rw [h3, List.take_add_one, List.map_append]
      congr 1
      rw [List.getElem?_eq_getElem hx, List.getD_eq_getElem?_getD, List.getElem?_eq_getElem hx]
      rfl
    · rw [lt_f (by omega), h3, List.take_of_length_le (by omega)]
      rfl
theorem i64_neg {p : Point} (h : canT p = true) (hw : i64ok p.X ∧ i64ok p.Y) : negOk p := by
  unfold canT at h
  simp only [Bool.and_eq_true, Bool.not_eq_true', beq_eq_false_iff_ne] at h
  obtain ⟨⟨h1, h2⟩, h3, h4⟩ := hw
  obtain ⟨h5, h6⟩ := h
  exact ⟨by omega, by omega, by omega, by omega⟩
theorem all_neg {a : List Point} (h : a.all canT = true) (hw : ∀ p ∈ a, i64ok p.X ∧ i64ok p.Y) : ∀ p ∈ a, negOk p := fun p hp => i64_neg (List.all_eq_true.1 h p hp) (hw p hp)
def turns (a : List Point) (q : Nat) : List Point := bif a.all canT then a.map (turnP q) else []
theorem turn_eq (a : List Point) (hl : a.length ≤ 1000000) (hw : ∀ p ∈ a, i64ok p.X ∧ i64ok p.Y) (r : Int) (q : Nat) (hq : q < 4) (hr : Int.tmod (w64 (Int.tmod r 4 + 4)) 4 = (q : Int)) : poly_Turn a r = some (turns a q) ∧ ref09_Turn a r = some (turns a q) := by
  unfold poly_Turn ref09_Turn turns
  rw [(canT_eq a hl).1, (canT_eq a hl).2]
  simp only [Option.bind_some]
  cases hc : a.all canT with
  | false => exact ⟨rfl, rfl⟩
  | true =>
    have hs := all_neg hc hw
    have h1 := polyTurn_loop a hs hl r q hq hr FUEL 0 (List.replicate a.length (Point.mk 0 0)) (by rw [FUEL_eq]; omega) (by omega) (by simp) (fun j hj => by omega)
    have h2 := refTurn_loop a hs hl r q hq hr FUEL 0 [] (by rw [FUEL_eq]; omega) (by omega) (by simp)
    rw [show ((0 : Nat) : Int) = 0 from rfl] at h1 h2
    rw [hr, mkOk_t (by omega) (by omega), inb_t (by omega) (by omega), h2]
    simp only [Bool.not_true, cond_false, cond_true, Int.toNat_natCast, h1, Option.bind_some, and_self]

def mirP (p : Point) : Point := ⟨-p.X, p.Y⟩
theorem polyMirror_loop (l : List Point) (hs : ∀ p ∈ l, negOk p) (h : l.length ≤ 1000000) :
    ∀ (n x : Nat) (t : List Point), l.length < x + n → x ≤ l.length → t.length = l.length → (∀ j, j < x → t.getD (l.length - 1 - j) default = mirP (l.getD j default)) → poly_Mirror_L1 l n t (x : Int) = some ((l.map mirP).reverse)
  | 0, x, t, h1, h2, _, _ => by omega
  | n + 1, x, t, h1, h2, h3, h4 => by
    unfold poly_Mirror_L1
    by_cases hx : x < l.length
    · have hm := hs _ (getD_mem' hx)
      have e1 : w64 (((l.length : Nat) : Int) - 1) = ((l.length - 1 : Nat) : Int) := by rw [w64_id (by omega) (by omega)]; omega
      have e2 : w64 (((l.length - 1 : Nat) : Int) - (x : Int)) = ((l.length - 1 - x : Nat) : Int) := by rw [w64_id (by omega) (by omega)]; omega
      rw [lt_t (by omega), e1, e2, inb_t (by omega) (by omega), inb_t (by omega) (by omega)]
      have e3 : w64 (0 - (l.getD x default).X) = -(l.getD x default).X := by have := hm.1; have := hm.2.1; rw [w64_id (by omega) (by omega)]; omega
      simp only [cond_true, Int.toNat_natCast, inc_eq (show x < 4611686018427387904 by omega), e3]
      refine polyMirror_loop l hs h n (x + 1) _ (by omega) (by omega) (by rw [List.length_set]; exact h3) (fun j hj => ?_)
      by_cases he : x = j
      · subst he; rw [getD_set_eq _ (by omega)]; rfl
      · rw [getD_set_ne _ (by omega)]; exact h4 j (by omega)
    · rw [lt_f (by omega)]
      have : t = (l.map mirP).reverse := by
        refine ext_getD (by simp [h3]) (fun j hj => ?_)
        have := h4 (l.length - 1 - j) (by omega)
        rw [show l.length - 1 - (l.length - 1 - j) = j by omega] at this
        rw [this, List.getD_eq_getElem?_getD (l := (l.map mirP).reverse), List.getElem?_reverse (by simp; omega), ← List.getD_eq_getElem?_getD, List.length_map, getD_map _ _ (by omega)]
      rw [this]; rfl
theorem refMirror_loop (l : List Point) (hs : ∀ p ∈ l, negOk p) (h : l.length ≤ 1000000) :
    ∀ (n x : Nat) (t : List Point), x < n → x ≤ l.length → t = ((l.drop x).map mirP).reverse → ref09_Mirror_L1 l n t ((x : Int) - 1) = some ((l.map mirP).reverse)
  | 0, x, t, h1, h2, _ => by omega
  | n + 1, 0, t, h1, h2, h3 => by
    unfold ref09_Mirror_L1
    rw [decide_eq_false (by omega), h3]
    rfl
  | n + 1, x + 1, t, h1, h2, h3 => by
    unfold ref09_Mirror_L1
    have hx : x < l.length := by omega
    have hm := hs _ (getD_mem' hx)
    have ht : t.length ≤ 1000000 := by rw [h3]; simp; omega
    have e3 : w64 (0 - (l.getD x default).X) = -(l.getD x default).X := by have := hm.1; have := hm.2.1; rw [w64_id (by omega) (by omega)]; omega
    have e0 : (((x + 1 : Nat) : Int) - 1) = (x : Int) := by omega
    have e4 : w64 ((x : Int) - 1) = (x : Int) - 1 := w64_id (by omega) (by omega)
    rw [e0, decide_eq_true (by omega), inb_t (by omega) (by omega), room_t (by omega)]
    simp only [cond_true, Int.toNat_natCast, e3, e4]
    refine refMirror_loop l hs h n x _ (by omega) (by omega) ?_
    rw [drop_getD l x hx, List.map_cons, List.reverse_cons, h3]
    rfl
def mirror (a : List Point) : List Point := bif a.all canT then (a.map mirP).reverse else []
theorem mirror_eq (a : List Point) (hl : a.length ≤ 1000000) (hw : ∀ p ∈ a, i64ok p.X ∧ i64ok p.Y) : poly_Mirror a = some (mirror a) ∧ ref09_Mirror a = some (mirror a) := by
  unfold poly_Mirror ref09_Mirror mirror
  rw [(canT_eq a hl).1, (canT_eq a hl).2]
  simp only [Option.bind_some]
  cases hc : a.all canT with
  | false => exact ⟨rfl, rfl⟩
  | true =>
    have hs := all_neg hc hw
    have h1 := polyMirror_loop a hs hl FUEL 0 (List.replicate a.length (Point.mk 0 0)) (by rw [FUEL_eq]; omega) (by omega) (by simp) (fun j hj => by omega)
    have h2 := refMirror_loop a hs hl FUEL a.length [] (by rw [FUEL_eq]; omega) (by omega) (by simp)
    rw [show ((0 : Nat) : Int) = 0 from rfl] at h1
    rw [mkOk_t (by omega) (by omega), w64_id (n := ((a.length : Nat) : Int) - 1) (by omega) (by omega), h2]
    simp only [Bool.not_true, cond_false, cond_true, Int.toNat_natCast, h1, Option.bind_some, and_self]

theorem same_loop (a : List Point) (hl : a.length ≤ 1000000) : ∀ (n x : Nat), a.length < x + n → x ≤ a.length → ref09_Same_L1 a a n (x : Int) = some (.inr ())
  | 0, x, h1, h2 => by omega
  | n + 1, x, h1, h2 => by
    unfold ref09_Same_L1
    by_cases hx : x < a.length
    · rw [lt_t (by omega), inb_t (by omega) (by omega)]
      simp only [cond_true, Int.toNat_natCast, beq_self_eq_true, Bool.and_true, Bool.not_true, cond_false, inc_eq (show x < 4611686018427387904 by omega)]
      exact same_loop a hl n (x + 1) (by omega) (by omega)
    · rw [lt_f (by omega)]
      rfl
theorem same_self (a : List Point) (hl : a.length ≤ 1000000) : ref09_Same a a = some true := by
  unfold ref09_Same
  have h := same_loop a hl FUEL 0 (by rw [FUEL_eq]; omega) (by omega)
  rw [show ((0 : Nat) : Int) = 0 from rfl] at h
  rw [h]
  simp
theorem turns_len (a : List Point) (q : Nat) : (turns a q).length ≤ a.length := by unfold turns; cases a.all canT <;> simp
theorem mirror_len (a : List Point) : (mirror a).length ≤ a.length := by unfold mirror; cases a.all canT <;> simp

theorem PolyTurns_true (a : List Point) (r : Int) (hw : a.length ≤ maxLen ∧ ∀ p ∈ a, i64ok p.X ∧ i64ok p.Y) (_ : i64ok r) : law09_PolyTurns a r = some true := by
  unfold law09_PolyTurns law09_few
  simp only [Option.bind_some]
  by_cases h : ((a.length : Nat) : Int) ≤ 100
  · obtain ⟨q, hq, hr⟩ := quarter_ex r
    have t := turn_eq a (by omega) hw.2 r q hq hr
    have m := mirror_eq a (by omega) hw.2
    have l1 := turns_len a q
    have l2 := mirror_len a
    rw [decide_eq_true h]
    simp only [Bool.not_true, cond_false, t.1, t.2, m.1, m.2, Option.bind_some, same_self _ (show (turns a q).length ≤ 1000000 by omega), same_self _ (show (mirror a).length ≤ 1000000 by omega), cond_true, awake_true, law09_PolyTurns_k1]
  · rw [decide_eq_false h]
    simp only [Bool.not_false, cond_true, awake_true, Option.bind_some]
end Saw
end Go.SL

namespace Go.SL
namespace Saw

/-- The stack (its top first) without the points that do not turn to the left before c. -/
def popR : List Point → Point → List Point
  | t :: s :: r, c => if cross s t c ≤ 0 then popR (s :: r) c else t :: s :: r
  | l, _ => l
theorem popR_len (c : Point) : ∀ st, (popR st c).length ≤ st.length
  | [] => Nat.le_refl _
  | [_] => Nat.le_refl _
  | t :: s :: r => by
    unfold popR
    split
    · have := popR_len c (s :: r); simp at this ⊢; omega
    · exact Nat.le_refl _
theorem popR_sub (c : Point) : ∀ st p, p ∈ popR st c → p ∈ st
  | [], _, h => h
  | [_], _, h => h
  | t :: s :: r, p, h => by
    unfold popR at h
    split at h
    · exact List.mem_cons_of_mem _ (popR_sub c (s :: r) p h)
    · exact h
def pushR (st : List Point) (c : Point) : List Point := c :: popR st c
def chainR (a : List Point) : List Point := a.foldl pushR []

theorem two_top (t s : Point) (r : List Point) : ((t :: s :: r).reverse).getD r.length default = s ∧ ((t :: s :: r).reverse).getD (r.length + 1) default = t ∧ ((t :: s :: r).reverse).take (r.length + 1) = (s :: r).reverse := by
  simp only [List.reverse_cons, List.append_assoc, List.cons_append, List.nil_append]
  refine ⟨?_, ?_, ?_⟩
  · rw [List.getD_eq_getElem?_getD, List.getElem?_append_right (by simp)]; simp
  · rw [List.getD_eq_getElem?_getD, List.getElem?_append_right (by simp)]; simp
  · rw [List.take_append, List.take_of_length_le (by simp)]; simp

theorem chain_L2 (a : List Point) (x : Nat) (hx : x < a.length) (hc : rng (a.getD x default)) : ∀ (n : Nat) (st : List Point), st.length < n → st.length ≤ 1000000 → (∀ p ∈ st, rng p) →
    poly_chain_L2 a (x : Int) n st.reverse = some (popR st (a.getD x default)).reverse ∧ ref09_chain_L2 a (x : Int) n st.reverse = some (popR st (a.getD x default)).reverse
  | 0, st, h, _, _ => by omega
  | n + 1, [], _, _, _ => ⟨rfl, rfl⟩
  | n + 1, [t], _, _, _ => ⟨rfl, rfl⟩
  | n + 1, t :: s :: r, h, hl, hr => by
    have hs : rng s := hr s (by simp)
    have ht : rng t := hr t (by simp)
    obtain ⟨g1, g2, g3⟩ := two_top t s r
    have hlen : ((t :: s :: r).reverse).length = r.length + 2 := by simp
    simp only [List.length_cons] at h hl
    have e1 : w64 (((r.length + 2 : Nat) : Int) - 2) = ((r.length : Nat) : Int) := by rw [w64_id (by omega) (by omega)]; omega
    have e2 : w64 (((r.length + 2 : Nat) : Int) - 1) = ((r.length + 1 : Nat) : Int) := by rw [w64_id (by omega) (by omega)]; omega
    have hsl : slOk 0 ((r.length + 1 : Nat) : Int) (r.length + 2) = true := by unfold slOk; exact decide_eq_true ⟨by omega, by omega, by omega⟩
    obtain ⟨ih1, ih2⟩ := chain_L2 a x hx hc n (s :: r) (by simp; omega) (by simp; omega) (fun p hp => hr p (List.mem_cons_of_mem _ hp))
    unfold poly_chain_L2 ref09_chain_L2 poly_chain_k3 ref09_chain_k3 popR
    rw [hlen, e1, e2, decide_eq_true (show ((r.length + 2 : Nat) : Int) ≥ 2 by omega), decide_eq_true (show ((r.length + 2 : Nat) : Int) > 1 by omega), inb_t (i := ((r.length : Nat) : Int)) (by omega) (by omega), inb_t (i := ((r.length + 1 : Nat) : Int)) (by omega) (by omega), inb_t (i := (x : Int)) (by omega) (by omega), hsl]
    simp only [cond_true, Int.toNat_natCast, g1, g2, g3, (cross_eq hs ht hc).1, (cross_eq hs ht hc).2, Option.bind_some, ih1, ih2]
    by_cases hcr : cross s t (a.getD x default) ≤ 0
    · rw [decide_eq_true hcr, if_pos hcr]; exact ⟨rfl, rfl⟩
    · rw [decide_eq_false hcr, if_neg hcr]; exact ⟨rfl, rfl⟩

theorem chain_L1 (a : List Point) (hr : ∀ p ∈ a, rng p) (hl : a.length ≤ 1000000) : ∀ (n x : Nat) (st : List Point), a.length < x + n → x ≤ a.length → st.length ≤ x → (∀ p ∈ st, rng p) →
    poly_chain_L1 a n st.reverse (x : Int) = some ((a.drop x).foldl pushR st).reverse ∧ ref09_chain_L1 a n st.reverse (x : Int) = some ((a.drop x).foldl pushR st).reverse
  | 0, x, st, h1, h2, _, _ => by omega
  | n + 1, x, st, h1, h2, h3, h4 => by
    unfold poly_chain_L1 ref09_chain_L1
    by_cases hx : x < a.length
    · have hc : rng (a.getD x default) := hr _ (getD_mem' hx)
      obtain ⟨p1, p2⟩ := chain_L2 a x hx hc FUEL st (by rw [FUEL_eq]; omega) (by omega) h4
      have hp := popR_len (a.getD x default) st
      obtain ⟨ih1, ih2⟩ := chain_L1 a hr hl n (x + 1) (pushR st (a.getD x default)) (by omega) (by omega) (by unfold pushR; rw [List.length_cons]; omega) (fun p hp' => by
        unfold pushR at hp'
        rcases List.mem_cons.1 hp' with rfl | hp'
        · exact hc
        · exact h4 p (popR_sub _ _ _ hp'))
      rw [lt_t (by omega), inb_t (by omega) (by omega), p1, p2, drop_getD a x hx]
      simp only [cond_true, Option.bind_some, List.length_reverse, room_t (n := (popR st (a.getD x default)).length + 1) (b := 16) (by omega), Int.toNat_natCast, inc_eq (show x < 4611686018427387904 by omega), List.foldl_cons]
      unfold pushR at ih1 ih2 ⊢
      rw [List.reverse_cons] at ih1 ih2
      exact ⟨ih1, ih2⟩
    · rw [lt_f (by omega), List.drop_of_length_le (by omega)]
      exact ⟨rfl, rfl⟩
theorem foldl_push_len : ∀ (a st : List Point), (a.foldl pushR st).length ≤ a.length + st.length
  | [], st => by simp
  | c :: a, st => by
    have h1 := foldl_push_len a (pushR st c)
    have h2 := popR_len c st
    unfold pushR at h1
    simp only [List.foldl_cons, List.length_cons] at h1 ⊢
    unfold pushR
    omega
theorem chainR_len (a : List Point) : (chainR a).length ≤ a.length := by have := foldl_push_len a []; simpa [chainR] using this
theorem foldl_push_ne : ∀ (a st : List Point), st ≠ [] ∨ a ≠ [] → a.foldl pushR st ≠ []
  | [], st, h => by simpa using h
  | c :: a, st, _ => foldl_push_ne a (pushR st c) (.inl (by unfold pushR; simp))
theorem chainR_pos {a : List Point} (h : a ≠ []) : 0 < (chainR a).length := List.length_pos_iff.2 (foldl_push_ne a [] (.inr h))
theorem chain_eq (a : List Point) (hr : ∀ p ∈ a, rng p) (hl : a.length ≤ 1000000) : (a ≠ [] → poly_chain a = some (chainR a).tail.reverse) ∧ ref09_chain a = some (chainR a).reverse := by
  obtain ⟨h1, h2⟩ := chain_L1 a hr hl FUEL 0 [] (by rw [FUEL_eq]; omega) (by omega) (by simp) (fun p hp => by cases hp)
  rw [show ((0 : Nat) : Int) = 0 from rfl, List.drop_zero, List.reverse_nil] at h1 h2
  unfold poly_chain ref09_chain
  rw [h1, h2]
  refine ⟨fun hne => ?_, rfl⟩
  have hp := chainR_pos hne
  have hle := chainR_len a
  change 0 < (a.foldl pushR []).length at hp
  change (a.foldl pushR []).length ≤ a.length at hle
  have e2 : w64 ((((a.foldl pushR []).reverse.length : Nat) : Int) - 1) = (((a.foldl pushR []).length - 1 : Nat) : Int) := by rw [List.length_reverse, w64_id (by omega) (by omega)]; omega
  have hsl : slOk 0 (((a.foldl pushR []).length - 1 : Nat) : Int) (a.foldl pushR []).reverse.length = true := by unfold slOk; rw [List.length_reverse]; exact decide_eq_true ⟨by omega, by omega, by omega⟩
  simp only [Option.bind_some, e2, hsl, cond_true, Int.toNat_natCast]
  unfold chainR
  generalize a.foldl pushR [] = st at hp
  cases st with
  | nil => simp at hp
  | cons t r => simp

theorem rev_loop (l : List Point) (hl : l.length ≤ 1000000) : ∀ (n i j : Nat) (t : List Point), l.length < 2 * i + 2 * n → i ≤ j + 1 → i + j + 1 = l.length → t.length = l.length → (∀ k, k < l.length → (k < i ∨ j < k) → t.getD k default = l.getD (l.length - 1 - k) default) → (∀ k, i ≤ k → k ≤ j → t.getD k default = l.getD k default) →
    slices_Reverse_SPoint_L1 n t (i : Int) (j : Int) = some l.reverse
  | 0, i, j, t, h1, h2, h3, _, _, _ => by omega
  | n + 1, i, j, t, h1, h2, h3, h4, h5, h6 => by
    unfold slices_Reverse_SPoint_L1
    by_cases hij : i < j
    · have e1 : w64 ((j : Int) - 1) = ((j - 1 : Nat) : Int) := by rw [w64_id (by omega) (by omega)]; omega
      rw [lt_t (by omega), inb_t (i := (j : Int)) (by omega) (by omega), inb_t (i := (i : Int)) (by omega) (by omega), e1]
      simp only [cond_true, Int.toNat_natCast, inc_eq (show i < 4611686018427387904 by omega)]
      refine rev_loop l hl n (i + 1) (j - 1) _ (by omega) (by omega) (by omega) (by simp [h4]) (fun k hk hkk => ?_) (fun k hk1 hk2 => ?_)
      · by_cases hkj : k = j
        · subst hkj
          rw [getD_set_eq _ (by simp; omega), h6 i (by omega) (by omega)]
          congr 1; omega
        · rw [getD_set_ne _ (fun e => hkj e.symm)]
          by_cases hki : k = i
          · subst hki
            rw [getD_set_eq _ (by omega), h6 j (by omega) (by omega)]
            congr 1; omega
          · rw [getD_set_ne _ (fun e => hki e.symm)]
            exact h5 k hk (by omega)
      · rw [getD_set_ne _ (by omega), getD_set_ne _ (by omega)]
        exact h6 k (by omega) (by omega)
    · rw [lt_f (by omega)]
      have : t = l.reverse := by
        refine ext_getD (by simp [h4]) (fun k hk => ?_)
        rw [List.getD_eq_getElem?_getD (l := l.reverse), List.getElem?_reverse (by omega), ← List.getD_eq_getElem?_getD]
        by_cases hkk : k < i ∨ j < k
        · exact h5 k (by omega) hkk
        · rw [h6 k (by omega) (by omega)]; congr 1; omega
      rw [this]; rfl
theorem rev_eq (l : List Point) (hne : l ≠ []) (hl : l.length ≤ 1000000) : slices_Reverse_SPoint l = some l.reverse := by
  have hp : 0 < l.length := List.length_pos_iff.2 hne
  unfold slices_Reverse_SPoint
  have h := rev_loop l hl FUEL 0 (l.length - 1) l (by rw [FUEL_eq]; omega) (by omega) (by omega) rfl (fun k hk h => by omega) (fun _ _ _ => rfl)
  rw [show ((0 : Nat) : Int) = 0 from rfl] at h
  rw [show w64 (((l.length : Nat) : Int) - 1) = ((l.length - 1 : Nat) : Int) by rw [w64_id (by omega) (by omega)]; omega, h]
  rfl
theorem refRev_loop (l : List Point) (h : l.length ≤ 1000000) : ∀ (n x : Nat) (t : List Point), x < n → x ≤ l.length → t = (l.drop x).reverse → ref09_Hull_L2 l n t ((x : Int) - 1) = some l.reverse
  | 0, x, t, h1, h2, _ => by omega
  | n + 1, 0, t, h1, h2, h3 => by
    unfold ref09_Hull_L2
    rw [decide_eq_false (by omega), h3]
    rfl
  | n + 1, x + 1, t, h1, h2, h3 => by
    unfold ref09_Hull_L2
    have hx : x < l.length := by omega
    have ht : t.length ≤ 1000000 := by rw [h3]; simp; omega
    have e0 : (((x + 1 : Nat) : Int) - 1) = (x : Int) := by omega
    have e4 : w64 ((x : Int) - 1) = (x : Int) - 1 := w64_id (by omega) (by omega)
    rw [e0, decide_eq_true (by omega), inb_t (by omega) (by omega), room_t (by omega)]
    simp only [cond_true, Int.toNat_natCast, e4]
    refine refRev_loop l h n x _ (by omega) (by omega) ?_
    rw [drop_getD l x hx, List.reverse_cons, h3]

def hullOf (s : List Point) : List Point := if (chainR s).length + (chainR s.reverse).length < 5 then [] else (chainR s).tail.reverse ++ (chainR s.reverse).tail.reverse
def hull (a : List Point) : List Point := bif decide (((a.length : Nat) : Int) > 32) then [] else bif a.all inRange then hullOf (srt a) else []
theorem hullOf_short {s : List Point} (h : s.length < 3) : hullOf s = [] := by
  have h1 := chainR_len s
  have h2 := chainR_len s.reverse
  rw [List.length_reverse] at h2
  unfold hullOf
  rw [if_pos (by omega)]
theorem refHull_eq (a : List Point) : ref09_Hull a = some (hull a) := by
  unfold ref09_Hull hull ref09_Hull_k1
  by_cases h : ((a.length : Nat) : Int) > 32
  · simp [h]
  rw [decide_eq_false h, ref_range a (by omega)]
  simp only [cond_false, Option.bind_some]
  cases hr : a.all inRange with
  | false => rfl
  | true =>
    have hrng : ∀ p ∈ srt a, rng p := fun p hp => inRange_iff.1 (List.all_eq_true.1 hr p ((srt_mem a p).1 hp))
    have hsl := srt_len a
    have c1 := (chain_eq (srt a) hrng (by omega)).2
    have c2 := (chain_eq (srt a).reverse (fun p hp => hrng p (by simpa using hp)) (by simp; omega)).2
    have hrv : ref09_Hull_L2 (srt a) FUEL [] (w64 ((((srt a).length : Nat) : Int) - 1)) = some (srt a).reverse := by
      rw [w64_id (by omega) (by omega)]
      exact refRev_loop (srt a) (by omega) FUEL (srt a).length [] (by rw [FUEL_eq]; omega) (Nat.le_refl _) (by simp)
    rw [refSorted_eq a (by omega)]
    simp only [Bool.not_true, cond_false, cond_true, Option.bind_some, hrv, c1, c2]
    have l1 := chainR_len (srt a)
    have l2 := chainR_len (srt a).reverse
    rw [List.length_reverse] at l2
    simp only [List.length_reverse]
    rw [w64_id (n := ((chainR (srt a)).length : Int) + ((chainR (srt a).reverse).length : Int)) (by omega) (by omega)]
    unfold hullOf
    by_cases h5 : (chainR (srt a)).length + (chainR (srt a).reverse).length < 5
    · rw [if_pos h5, lt_t (by omega)]; rfl
    · rw [if_neg h5, lt_f (by omega)]
      have hne : srt a ≠ [] := fun e => by rw [e] at h5; simp [chainR] at h5
      have p1 := chainR_pos hne
      have p2 := chainR_pos (a := (srt a).reverse) (by simpa using hne)
      have e1 : w64 (((chainR (srt a)).length : Int) - 1) = (((chainR (srt a)).length - 1 : Nat) : Int) := by rw [w64_id (by omega) (by omega)]; omega
      have e2 : w64 (((chainR (srt a).reverse).length : Int) - 1) = (((chainR (srt a).reverse).length - 1 : Nat) : Int) := by rw [w64_id (by omega) (by omega)]; omega
      have s1 : slOk 0 (((chainR (srt a)).length - 1 : Nat) : Int) (chainR (srt a)).length = true := by unfold slOk; exact decide_eq_true ⟨by omega, by omega, by omega⟩
      have s2 : slOk 0 (((chainR (srt a).reverse).length - 1 : Nat) : Int) (chainR (srt a).reverse).length = true := by unfold slOk; exact decide_eq_true ⟨by omega, by omega, by omega⟩
      rw [e1, e2, s1, s2, room_t (by simp; omega), room_t (by simp; omega)]
      simp only [cond_false, cond_true, Int.toNat_natCast, List.nil_append]
      congr 1
      have tk : ∀ st : List Point, 0 < st.length → st.reverse.take (st.length - 1) = st.tail.reverse := fun st hst => by
        cases st with
        | nil => simp at hst
        | cons t r => simp
      rw [tk _ p1, tk _ p2]
theorem polyHull_eq (a : List Point) : poly_Hull a = some (hull a) := by
  unfold poly_Hull hull poly_Hull_k1
  by_cases h3 : ((a.length : Nat) : Int) < 3
  · have hs : hullOf (srt a) = [] := hullOf_short (by have := srt_len a; omega)
    rw [decide_eq_true h3, decide_eq_false (show ¬ ((a.length : Nat) : Int) > 32 by omega), hs]
    cases a.all inRange <;> rfl
  by_cases h : ((a.length : Nat) : Int) > 32
  · simp [h, h3]
  rw [decide_eq_false h, decide_eq_false h3, poly_range a (by omega)]
  simp only [cond_false, Option.bind_some]
  cases hr : a.all inRange with
  | false => rfl
  | true =>
    have hrng : ∀ p ∈ srt a, rng p := fun p hp => inRange_iff.1 (List.all_eq_true.1 hr p ((srt_mem a p).1 hp))
    have hsl := srt_len a
    have hpl := (sortB_perm pLe a).length_eq
    have hane : a ≠ [] := fun e => by rw [e] at h3; simp at h3
    have hne : srt a ≠ [] := fun e => by
      obtain ⟨p, hp⟩ := List.exists_mem_of_ne_nil a hane
      have := (srt_mem a p).2 hp
      rw [e] at this; cases this
    have c1 := (chain_eq (srt a) hrng (by omega)).1 hne
    have c2 := (chain_eq (srt a).reverse (fun p hp => hrng p (by simpa using hp)) (by simp; omega)).1 (by simpa using hne)
    have hso : sortOk a.length = true := by unfold sortOk; rw [Bool.and_eq_true, Nat.blt_eq, Nat.blt_eq]; omega
    have hcl : slices_Clone_SPoint a = some a := by unfold slices_Clone_SPoint; rw [room_t (by omega)]; rfl
    have hst : slices_SortFunc_SPoint a = some (sortB pLe a) := by unfold slices_SortFunc_SPoint; rw [hso, sort_eq]; rfl
    have hco : slices_Compact_SPoint (sortB pLe a) = some (srt a, srt a) := compact_eq (sortB pLe a) (by omega)
    have l1 := chainR_len (srt a)
    have l2 := chainR_len (srt a).reverse
    rw [List.length_reverse] at l2
    have p1 := chainR_pos hne
    have p2 := chainR_pos (a := (srt a).reverse) (by simpa using hne)
    simp only [Bool.not_true, cond_false, cond_true, hcl, hst, hco, Option.bind_some, hpl, beq_self_eq_true, c1, rev_eq _ hne (show (srt a).length ≤ 1000000 by omega), c2, List.length_reverse, List.length_tail]
    rw [room_t (by omega)]
    unfold hullOf
    by_cases h5 : (chainR (srt a)).length + (chainR (srt a).reverse).length < 5
    · rw [if_pos h5, lt_t (by omega)]; rfl
    · rw [if_neg h5, lt_f (by omega)]; rfl
theorem hullOf_len (s : List Point) : (hullOf s).length ≤ s.length + s.length := by
  have h1 := chainR_len s
  have h2 := chainR_len s.reverse
  rw [List.length_reverse] at h2
  unfold hullOf
  split
  · simp
  · simp; omega
theorem hull_len (a : List Point) : (hull a).length ≤ a.length + a.length := by
  have h1 := hullOf_len (srt a)
  have h2 := srt_len a
  unfold hull
  cases decide (((a.length : Nat) : Int) > 32) with
  | true => simp
  | false => cases a.all inRange with
    | true => simp only [cond_false, cond_true]; omega
    | false => simp
theorem PolyHulls_true (a : List Point) : law09_PolyHulls a = some true := by
  unfold law09_PolyHulls law09_few
  simp only [Option.bind_some]
  by_cases h : ((a.length : Nat) : Int) ≤ 100
  · have hl := hull_len a
    rw [decide_eq_true h]
    simp only [Bool.not_true, cond_false, polyHull_eq, refHull_eq, Option.bind_some, same_self _ (show (hull a).length ≤ 1000000 by omega), cond_true, awake_true, law09_PolyHulls_k1]
  · rw [decide_eq_false h]
    simp only [Bool.not_false, cond_true, awake_true, Option.bind_some]
end Saw
end Go.SL

namespace Go.SL
namespace Saw

/-- Lexicographically positive. -/
def pos (x y : Int) : Prop := 0 < x ∨ (x = 0 ∧ 0 < y)
theorem vec_trans {ux uy vx vy wx wy : Int} (hu : pos ux uy) (hv : pos vx vy) (hw : pos wx wy) (h1 : 0 ≤ ux * vy - vx * uy) (h2 : 0 ≤ vx * wy - wx * vy) : 0 ≤ ux * wy - wx * uy := by
  unfold pos at *
  have hux : 0 ≤ ux := by omega
  have hwx : 0 ≤ wx := by omega
  rcases hv with hv | ⟨hv, hvy⟩
  · have e : (ux * wy - wx * uy) * vx = (ux * vy - vx * uy) * wx + (vx * wy - wx * vy) * ux := by grind
    have h3 : 0 ≤ (ux * wy - wx * uy) * vx := by rw [e]; exact Int.add_nonneg (Int.mul_nonneg h1 hwx) (Int.mul_nonneg h2 hux)
    exact Int.nonneg_of_mul_nonneg_left h3 hv
  · subst hv
    have h4 : 0 ≤ -(wx * vy) := by simpa using h2
    have hw0 : wx = 0 := by
      rcases Int.lt_or_eq_of_le hwx with h | h
      · have := Int.mul_pos h hvy; omega
      · exact h.symm
    subst hw0
    have hwy : 0 < wy := by omega
    have := Int.mul_nonneg hux (Int.le_of_lt hwy)
    simpa using this
theorem lt_pos {p q : Point} (h : pLt p q) : pos (q.X - p.X) (q.Y - p.Y) := by unfold pLt at h; unfold pos; omega
theorem cross_self_l (p q : Point) : cross p q p = 0 := by unfold cross; grind
theorem cross_self_r (p q : Point) : cross p q q = 0 := by unfold cross; grind

/-- (b): c is right of s t, p left of it: p is left of s c. -/
theorem turn_b {s t c p : Point} (hst : pLt s t) (hsc : pLt s c) (hsp : pLt s p) (h1 : cross s t c ≤ 0) (h2 : 0 ≤ cross s t p) : 0 ≤ cross s c p := by
  unfold cross at *
  exact vec_trans (lt_pos hsc) (lt_pos hst) (lt_pos hsp) (by omega) h2
/-- (c): a left turn at t: what is left of s t and ahead of t is left of t c. -/
theorem turn_c {s t c p : Point} (hst : pLt s t) (htc : pLt t c) (hpt : pLt p t) (h1 : 0 < cross s t c) (h2 : 0 ≤ cross s t p) : 0 ≤ cross t c p := by
  have h3 := vec_trans (ux := t.X - p.X) (uy := t.Y - p.Y) (vx := t.X - s.X) (vy := t.Y - s.Y) (wx := c.X - t.X) (wy := c.Y - t.Y) (lt_pos hpt) (lt_pos hst) (lt_pos htc)
    (by unfold cross at h2; grind) (by unfold cross at h1; grind)
  unfold cross
  grind

/-- Each edge of the stack has all of these points on its left. -/
def Left (pts : List Point) : List Point → Prop
  | v :: u :: r => (∀ p ∈ pts, 0 ≤ cross u v p) ∧ Left pts (u :: r)
  | _ => True
/-- The stack turns to the left at each inner corner. -/
def Turns : List Point → Prop
  | c :: t :: s :: r => 0 < cross s t c ∧ Turns (t :: s :: r)
  | _ => True
theorem pop_left (pts : List Point) (c : Point) (hc : ∀ p ∈ pts, pLt p c) : ∀ (st : List Point), st.Pairwise (fun a b => pLt b a) → (∀ p ∈ st, p ∈ pts) → Left pts st → Turns st → (∀ t r, st = t :: r → ∀ p ∈ pts, pLt t p → 0 ≤ cross t c p) → (∀ t, st.getLast? = some t → ∀ p ∈ pts, p = t ∨ pLt t p) →
    Left pts (c :: popR st c) ∧ Turns (c :: popR st c)
  | [], _, _, _, _, _, _ => ⟨trivial, trivial⟩
  | [t], _, hm, _, _, hq, hb => by
    refine ⟨⟨fun p hp => ?_, trivial⟩, trivial⟩
    rcases hb t rfl p hp with rfl | h
    · rw [cross_self_l]; exact Int.le_refl _
    · exact hq t [] rfl p hp h
  | t :: s :: r, hs, hm, hl, ht, hq, hb => by
    obtain ⟨s1, s2⟩ := List.pairwise_cons.1 hs
    have hst : pLt s t := s1 s List.mem_cons_self
    obtain ⟨l1, l2⟩ := hl
    have htc := hc t (hm t List.mem_cons_self)
    unfold popR
    by_cases hcr : cross s t c ≤ 0
    · rw [if_pos hcr]
      refine pop_left pts c hc (s :: r) s2 (fun p hp => hm p (List.mem_cons_of_mem _ hp)) l2 (by cases r with | nil => trivial | cons u r => exact ht.2) (fun t' r' he p hp hsp => ?_) (fun t' he p hp => hb t' (by rw [List.getLast?_cons_cons]; exact he) p hp)
      cases he
      exact turn_b hst (hc s (hm s (by simp))) hsp hcr (l1 p hp)
    · rw [if_neg hcr]
      refine ⟨⟨fun p hp => ?_, l1, l2⟩, by omega, ht⟩
      rcases pLt_tri p t with h | h | h
      · exact turn_c hst htc h (by omega) (l1 p hp)
      · rw [h, cross_self_l]; exact Int.le_refl _
      · exact hq t _ rfl p hp h
end Saw
end Go.SL

namespace Go.SL
namespace Saw

abbrev Desc (st : List Point) : Prop := st.Pairwise (fun a b => pLt b a)
structure Inv (pts st : List Point) : Prop where
  desc : Desc st
  sub : ∀ p ∈ st, p ∈ pts
  left : Left pts st
  turns : Turns st
  top : ∀ t r, st = t :: r → ∀ p ∈ pts, p = t ∨ pLt p t
  bot : ∀ t, st.getLast? = some t → ∀ p ∈ pts, p = t ∨ pLt t p
theorem popR_desc (c : Point) : ∀ st, Desc st → Desc (popR st c)
  | [], h => h
  | [_], h => h
  | t :: s :: r, h => by
    unfold popR
    split
    · exact popR_desc c (s :: r) (List.pairwise_cons.1 h).2
    · exact h
theorem popR_last (c : Point) : ∀ st, (popR st c).getLast? = st.getLast?
  | [] => rfl
  | [_] => rfl
  | t :: s :: r => by
    unfold popR
    split
    · rw [popR_last c (s :: r), List.getLast?_cons_cons]
    · rfl
theorem left_app {a b : List Point} : ∀ {st : List Point}, Left a st → Left b st → Left (a ++ b) st
  | [], _, _ => trivial
  | [_], _, _ => trivial
  | v :: u :: r, ⟨h1, h2⟩, ⟨h3, h4⟩ => ⟨fun p hp => (List.mem_append.1 hp).elim (h1 p) (h3 p), left_app h2 h4⟩
/-- The turns of a chain carry what lies left of its last edge to the left of all its edges. -/
theorem left_new (c : Point) : ∀ st, Desc st → (∀ p ∈ st, pLt p c) → Turns st → (∀ v u r, st = v :: u :: r → 0 ≤ cross u v c) → Left [c] st
  | [], _, _, _, _ => trivial
  | [_], _, _, _, _ => trivial
  | v :: u :: r, hd, hc, ht, h0 => by
    have h1 := h0 v u r rfl
    obtain ⟨d1, d2⟩ := List.pairwise_cons.1 hd
    refine ⟨fun p hp => by rw [List.mem_singleton.1 hp]; exact h1, left_new c (u :: r) d2 (fun p hp => hc p (List.mem_cons_of_mem _ hp)) (by cases r with | nil => trivial | cons x r => exact ht.2) (fun v' u' r' he => ?_)⟩
    cases he
    obtain ⟨t1, _⟩ := ht
    have huv : pLt u v := d1 u List.mem_cons_self
    have hxu : pLt u' u := (List.pairwise_cons.1 d2).1 u' List.mem_cons_self
    have huc : pLt u c := hc u (by simp)
    have := vec_trans (lt_pos hxu) (lt_pos huv) (lt_pos huc) (by unfold cross at t1; grind) (by unfold cross at h1; grind)
    unfold cross
    grind
theorem Inv.push {pts st : List Point} (h : Inv pts st) {c : Point} (hc : ∀ p ∈ pts, pLt p c) (hne : pts ≠ [] → st ≠ []) : Inv (pts ++ [c]) (pushR st c) := by
  have hp := pop_left pts c hc st h.desc h.sub h.left h.turns (fun t r he p hp htp => by
    rcases h.top t r he p hp with rfl | h1
    · exact absurd htp (pLt_irrefl _)
    · exact absurd htp (pLt_asymm h1)) h.bot
  have hsub : ∀ p ∈ popR st c, p ∈ pts := fun p hp => h.sub p (popR_sub c st p hp)
  have hlt : ∀ p ∈ popR st c, pLt p c := fun p hp => hc p (hsub p hp)
  have hdesc : Desc (pushR st c) := List.pairwise_cons.2 ⟨hlt, popR_desc c st h.desc⟩
  refine ⟨hdesc, fun p hp' => ?_, left_app hp.1 ?_, hp.2, fun t r he p hp' => ?_, fun t he p hp' => ?_⟩
  · rcases List.mem_cons.1 hp' with rfl | hp'
    · simp
    · exact List.mem_append_left _ (hsub p hp')
  · have hl : Left [c] (popR st c) := by
      refine left_new c _ (popR_desc c st h.desc) hlt ?_ (fun v u r he => ?_)
      · have := hp.2
        generalize popR st c = q at this
        match q, this with
        | [], _ => trivial
        | [_], _ => trivial
        | [_, _], _ => trivial
        | _ :: _ :: _ :: _, this => exact this.2
      · have := hp.2
        rw [he] at this
        exact Int.le_of_lt this.1
    unfold pushR
    generalize popR st c = q at hl
    match q, hl with
    | [], _ => trivial
    | t :: r, hl => exact ⟨fun p hp => by rw [List.mem_singleton.1 hp, cross_self_r]; exact Int.le_refl _, hl⟩
  · cases he
    rcases List.mem_append.1 hp' with h1 | h1
    · exact .inr (hc p h1)
    · exact .inl (List.mem_singleton.1 h1)
  · unfold pushR at he
    by_cases hst : st = []
    · subst hst
      have hpts : pts = [] := Classical.byContradiction fun hh => hne hh rfl
      subst hpts
      simp [popR] at he
      subst he
      exact .inl (by simpa using hp')
    · have hpe : popR st c ≠ [] := fun e => by
        have := popR_last c st
        rw [e] at this
        exact hst (List.getLast?_eq_none_iff.1 this.symm)
      have he' : st.getLast? = some t := by
        obtain ⟨x, q, hq⟩ := List.exists_cons_of_ne_nil hpe
        rw [← popR_last c st, hq]
        rw [hq, List.getLast?_cons_cons] at he
        exact he
      rcases List.mem_append.1 hp' with h1 | h1
      · exact h.bot t he' p h1
      · rw [List.mem_singleton.1 h1]
        exact .inr (hc t (h.sub t (List.mem_of_getLast? he')))
theorem inv_fold : ∀ (rest pts st : List Point), Inv pts st → (pts ≠ [] → st ≠ []) → (∀ p ∈ pts, ∀ q ∈ rest, pLt p q) → StrictS rest → Inv (pts ++ rest) (rest.foldl pushR st)
  | [], pts, st, h, _, _, _ => by simpa using h
  | c :: rest, pts, st, h, hne, hlt, hs => by
    obtain ⟨s1, s2⟩ := List.pairwise_cons.1 hs
    have := inv_fold rest (pts ++ [c]) (pushR st c) (h.push (fun p hp => hlt p hp c List.mem_cons_self) hne) (fun _ => by unfold pushR; simp) (fun p hp q hq => by
      rcases List.mem_append.1 hp with h1 | h1
      · exact hlt p h1 q (List.mem_cons_of_mem _ hq)
      · rw [List.mem_singleton.1 h1]; exact s1 q hq) s2
    rw [List.append_assoc] at this
    exact this
theorem chain_inv {s : List Point} (hs : StrictS s) : Inv s (chainR s) := by
  have := inv_fold s [] [] ⟨List.Pairwise.nil, fun p hp => (by cases hp), trivial, trivial, fun t r he => (by cases he), fun t he => (by cases he)⟩ (fun h => absurd rfl h) (fun p hp => by cases hp) hs
  simpa [chainR] using this
end Saw
end Go.SL

namespace Go.SL
namespace Saw

def ng (p : Point) : Point := ⟨-p.X, -p.Y⟩
theorem ng_ng (p : Point) : ng (ng p) = p := by unfold ng; simp
theorem cross_ng (p q r : Point) : cross (ng p) (ng q) (ng r) = cross p q r := by unfold cross ng; grind
theorem pLt_ng {p q : Point} : pLt (ng p) (ng q) ↔ pLt q p := by unfold pLt ng; simp only; omega
theorem popR_ng (c : Point) : ∀ st, popR (st.map ng) (ng c) = (popR st c).map ng
  | [] => rfl
  | [_] => rfl
  | t :: s :: r => by
    have ih := popR_ng c (s :: r)
    simp only [List.map_cons] at ih ⊢
    rw [popR, popR, cross_ng]
    split
    · exact ih
    · simp
theorem fold_ng : ∀ (l st : List Point), (l.map ng).foldl pushR (st.map ng) = (l.foldl pushR st).map ng
  | [], st => rfl
  | c :: l, st => by
    have := fold_ng l (pushR st c)
    simp only [List.map_cons, List.foldl_cons]
    rw [← this]
    unfold pushR
    rw [popR_ng, List.map_cons]
theorem chainR_ng (l : List Point) : chainR (l.map ng) = (chainR l).map ng := fold_ng l []
theorem map_ng_ng (l : List Point) : (l.map ng).map ng = l := by rw [List.map_map]; conv => rhs; rw [← List.map_id l]
                                                                 congr 1; funext p; exact ng_ng p
theorem left_ng {pts : List Point} : ∀ {st : List Point}, Left (pts.map ng) (st.map ng) → Left pts st
  | [], _ => trivial
  | [_], _ => trivial
  | v :: u :: r, ⟨h1, h2⟩ => ⟨fun p hp => by have := h1 (ng p) (List.mem_map_of_mem hp); rwa [cross_ng] at this, left_ng h2⟩
theorem turns_ng : ∀ {st : List Point}, Turns (st.map ng) → Turns st
  | [], _ => trivial
  | [_], _ => trivial
  | [_, _], _ => trivial
  | c :: t :: s :: r, ⟨h1, h2⟩ => ⟨by rwa [cross_ng] at h1, turns_ng h2⟩
theorem left_mem {a b : List Point} (h : ∀ p, p ∈ b → p ∈ a) : ∀ {st : List Point}, Left a st → Left b st
  | [], _ => trivial
  | [_], _ => trivial
  | _ :: _ :: _, ⟨h1, h2⟩ => ⟨fun p hp => h1 p (h p hp), left_mem h h2⟩

/-- The upper chain. -/
structure Up (pts st : List Point) : Prop where
  asc : StrictS st
  sub : ∀ p ∈ st, p ∈ pts
  left : Left pts st
  turns : Turns st
  top : ∀ t r, st = t :: r → ∀ p ∈ pts, p = t ∨ pLt t p
  bot : ∀ t, st.getLast? = some t → ∀ p ∈ pts, p = t ∨ pLt p t
theorem up_inv {s : List Point} (hs : StrictS s) : Up s (chainR s.reverse) := by
  have hs' : StrictS (s.reverse.map ng) := by
    refine List.pairwise_map.2 (List.pairwise_reverse.2 ?_)
    exact hs.imp (fun h => pLt_ng.2 h)
  have hi := chain_inv hs'
  have he : chainR (s.reverse.map ng) = (chainR s.reverse).map ng := chainR_ng _
  rw [he] at hi
  have hmem : ∀ p, p ∈ s → ng p ∈ s.reverse.map ng := fun p hp => List.mem_map_of_mem (by simpa using hp)
  have inj : ∀ p q, ng p = ng q → p = q := fun p q h => by rw [← ng_ng p, h, ng_ng]
  refine ⟨?_, fun p hp => ?_, left_ng (left_mem (fun p hp => ?_) hi.left), turns_ng hi.turns, fun t r ht p hp => ?_, fun t ht p hp => ?_⟩
  · have := hi.desc
    rw [Desc, List.pairwise_map] at this
    exact this.imp (fun h => pLt_ng.1 h)
  · have := hi.sub (ng p) (List.mem_map_of_mem hp)
    obtain ⟨q, hq, e⟩ := List.mem_map.1 this
    rw [← inj _ _ e]; simpa using hq
  · obtain ⟨q, hq, e⟩ := List.mem_map.1 hp
    rw [← e]; exact hmem q hq
  · rcases hi.top (ng t) (r.map ng) (by rw [ht]; rfl) (ng p) (hmem p hp) with h | h
    · exact .inl (inj _ _ h)
    · exact .inr (pLt_ng.1 h)
  · rcases hi.bot (ng t) (by rw [List.getLast?_map, ht]; rfl) (ng p) (hmem p hp) with h | h
    · exact .inl (inj _ _ h)
    · exact .inr (pLt_ng.1 h)

/-- Along a walk: each step has these points on its left. -/
def LeftF (pts : List Point) : List Point → Prop
  | u :: v :: r => (∀ p ∈ pts, 0 ≤ cross u v p) ∧ LeftF pts (v :: r)
  | _ => True
theorem leftF_join {pts : List Point} {x : Point} : ∀ {a b : List Point}, LeftF pts (a ++ [x]) → LeftF pts (x :: b) → LeftF pts (a ++ x :: b)
  | [], _, _, h => h
  | [_], _, h1, h2 => ⟨h1.1, h2⟩
  | _ :: v :: a, b, h1, h2 => ⟨h1.1, leftF_join (a := v :: a) h1.2 h2⟩
theorem left_rev {pts : List Point} : ∀ {st : List Point}, Left pts st → LeftF pts st.reverse
  | [], _ => trivial
  | [_], _ => trivial
  | v :: u :: r, ⟨h1, h2⟩ => by
    have ih := left_rev h2
    rw [List.reverse_cons] at ih
    rw [List.reverse_cons, List.reverse_cons, List.append_assoc]
    exact leftF_join ih ⟨h1, trivial⟩
theorem leftF_get {pts : List Point} : ∀ {w : List Point}, LeftF pts w → ∀ x, x + 1 < w.length → ∀ p ∈ pts, 0 ≤ cross (w.getD x default) (w.getD (x + 1) default) p
  | [], _, x, h => by simp at h
  | [_], _, x, h => by simp at h
  | u :: v :: r, hl, 0, _ => hl.1
  | u :: v :: r, hl, x + 1, h => by
    have := leftF_get hl.2 x (by simpa using h)
    simpa using this
/-- The closed walk around a hull: from its first corner along the lower chain to the last one, and back along the upper chain. -/
def walkOf (s : List Point) : List Point := (chainR s).reverse ++ (chainR s.reverse).reverse.tail
end Saw
end Go.SL

namespace Go.SL
namespace Saw

theorem last_rev {l : List Point} {m : Point} (h : l.getLast? = some m) : ∃ r, l.reverse = m :: r := by
  rw [List.getLast?_eq_head?_reverse] at h
  cases hr : l.reverse with
  | nil => rw [hr] at h; cases h
  | cons a r => rw [hr] at h; cases h; exact ⟨r, rfl⟩
theorem some_last {l : List Point} (h : l ≠ []) : ∃ m, l.getLast? = some m := by
  cases hl : l.getLast? with
  | none => exact absurd (List.getLast?_eq_none_iff.1 hl) h
  | some m => exact ⟨m, rfl⟩

/-- What a hull that is one looks like: lower chain from m to M, upper chain back. -/
theorem hull_form {s : List Point} (hs : StrictS s) (h5 : ¬ (chainR s).length + (chainR s.reverse).length < 5) : ∃ (m M : Point) (lo up : List Point), chainR s = M :: lo ∧ chainR s.reverse = m :: up ∧ m ∈ s ∧ M ∈ s ∧ (∀ p ∈ s, p = m ∨ pLt m p) ∧ (∀ p ∈ s, p = M ∨ pLt p M) ∧ pLt m M ∧ (∃ r, lo.reverse = m :: r) ∧ (∃ r, up.reverse = M :: r) ∧ hullOf s = lo.reverse ++ up.reverse := by
  have hne : s ≠ [] := fun e => by rw [e] at h5; simp [chainR] at h5
  have hi := chain_inv hs
  have hu := up_inv hs
  have l1 : chainR s ≠ [] := List.length_pos_iff.1 (chainR_pos hne)
  have l2 : chainR s.reverse ≠ [] := List.length_pos_iff.1 (chainR_pos (a := s.reverse) (by simpa using hne))
  obtain ⟨M, lo, e1⟩ := List.exists_cons_of_ne_nil l1
  obtain ⟨m, up, e2⟩ := List.exists_cons_of_ne_nil l2
  obtain ⟨m', f1⟩ := some_last l1
  obtain ⟨M', f2⟩ := some_last l2
  have hM : M ∈ s := hi.sub M (by rw [e1]; exact List.mem_cons_self)
  have hm : m ∈ s := hu.sub m (by rw [e2]; exact List.mem_cons_self)
  have hM' : M' ∈ s := hu.sub M' (List.mem_of_getLast? f2)
  have hm' : m' ∈ s := hi.sub m' (List.mem_of_getLast? f1)
  have tM := hi.top M lo e1
  have tm := hu.top m up e2
  have bm := hi.bot m' f1
  have bM := hu.bot M' f2
  have em : m' = m := by
    rcases bm m hm with h | h
    · exact h.symm
    · rcases tm m' hm' with h' | h'
      · exact h'
      · exact absurd h (pLt_asymm h')
  have eM : M' = M := by
    rcases bM M hM with h | h
    · exact h.symm
    · rcases tM M' hM' with h' | h'
      · exact h'
      · exact absurd h (pLt_asymm h')
  subst em eM
  have hlt : pLt m' M' := by
    rcases tm M' hM with h | h
    · exfalso
      have all : ∀ p ∈ s, p = m' := fun p hp => by
        rcases tm p hp with h1 | h1
        · exact h1
        · rcases tM p hp with h2 | h2
          · rw [h2, h]
          · rw [h] at h2; exact absurd h1 (pLt_asymm h2)
      have one : s.length ≤ 1 := by
        match s, hs, all with
        | [], _, _ => simp
        | [_], _, _ => simp
        | a :: b :: r, hs, all =>
          have := (List.pairwise_cons.1 hs).1 b List.mem_cons_self
          rw [all a (by simp), all b (by simp)] at this
          exact absurd this (pLt_irrefl _)
      have c1 := chainR_len s
      have c2 := chainR_len s.reverse
      rw [List.length_reverse] at c2
      omega
    · exact h
  have g1 : ∃ r, lo.reverse = m' :: r := by
    refine last_rev ?_
    rw [e1] at f1
    cases lo with
    | nil => simp at f1; rw [f1] at hlt; exact absurd hlt (pLt_irrefl _)
    | cons a r => rw [List.getLast?_cons_cons] at f1; exact f1
  have g2 : ∃ r, up.reverse = M' :: r := by
    refine last_rev ?_
    rw [e2] at f2
    cases up with
    | nil => simp at f2; rw [f2] at hlt; exact absurd hlt (pLt_irrefl _)
    | cons a r => rw [List.getLast?_cons_cons] at f2; exact f2
  refine ⟨m', M', lo, up, e1, e2, hm, hM, tm, tM, hlt, g1, g2, ?_⟩
  unfold hullOf
  rw [if_neg h5, e1, e2]
  rfl
/-- Every point lies to the left of each edge of the hull. -/
theorem hull_left {s : List Point} (hs : StrictS s) (h5 : ¬ (chainR s).length + (chainR s.reverse).length < 5) : 3 ≤ (hullOf s).length ∧ (∀ p ∈ hullOf s, p ∈ s) ∧ ∀ x, x < (hullOf s).length → ∀ p ∈ s, 0 ≤ cross ((hullOf s).getD x default) ((hullOf s).getD ((x + 1) % (hullOf s).length) default) p := by
  obtain ⟨m, M, lo, up, e1, e2, hm, hM, tm, tM, hlt, ⟨r1, g1⟩, ⟨r2, g2⟩, hH⟩ := hull_form hs h5
  have hi := chain_inv hs
  have hu := up_inv hs
  have L1 := left_rev hi.left
  have L2 := left_rev hu.left
  rw [e1, List.reverse_cons] at L1
  rw [e2, List.reverse_cons, g2, List.cons_append] at L2
  have LW : LeftF s (lo.reverse ++ up.reverse ++ [m]) := by
    rw [List.append_assoc, g2, List.cons_append]
    exact leftF_join L1 L2
  have hlen : (hullOf s).length = lo.length + up.length := by rw [hH]; simp
  have h3 : 3 ≤ (hullOf s).length := by
    have a1 : (chainR s).length = lo.length + 1 := by rw [e1]; rfl
    have a2 : (chainR s.reverse).length = up.length + 1 := by rw [e2]; rfl
    omega
  refine ⟨h3, fun p hp => ?_, fun x hx p hp => ?_⟩
  · rw [hH, List.mem_append, List.mem_reverse, List.mem_reverse] at hp
    rcases hp with hp | hp
    · exact hi.sub p (by rw [e1]; exact List.mem_cons_of_mem _ hp)
    · exact hu.sub p (by rw [e2]; exact List.mem_cons_of_mem _ hp)
  · have hw := leftF_get LW x (by rw [← hH]; simp; omega) p hp
    rw [← hH] at hw
    have w1 : (hullOf s ++ [m]).getD x default = (hullOf s).getD x default := by
      rw [List.getD_eq_getElem?_getD, List.getElem?_append_left hx, ← List.getD_eq_getElem?_getD]
    have w2 : (hullOf s ++ [m]).getD (x + 1) default = (hullOf s).getD ((x + 1) % (hullOf s).length) default := by
      by_cases hx1 : x + 1 < (hullOf s).length
      · rw [Nat.mod_eq_of_lt hx1, List.getD_eq_getElem?_getD, List.getElem?_append_left hx1, ← List.getD_eq_getElem?_getD]
      · have : x + 1 = (hullOf s).length := by omega
        rw [this, Nat.mod_self, List.getD_eq_getElem?_getD, List.getElem?_append_right (Nat.le_refl _), Nat.sub_self, hH, g1]
        rfl
    rw [w1, w2] at hw
    exact hw
end Saw
end Go.SL

namespace Go.SL
namespace Saw

def TurnsF : List Point → Prop
  | u :: v :: w :: r => 0 < cross u v w ∧ TurnsF (v :: w :: r)
  | _ => True
theorem turnsF_join {x y : Point} : ∀ {a b : List Point}, TurnsF (a ++ [x, y]) → TurnsF (x :: y :: b) → TurnsF (a ++ x :: y :: b)
  | [], _, _, h => h
  | [_], _, h1, h2 => ⟨h1.1, h2⟩
  | [_, _], _, h1, h2 => ⟨h1.1, h1.2.1, h2⟩
  | _ :: v :: w :: a, b, h1, h2 => ⟨h1.1, turnsF_join (a := v :: w :: a) h1.2 h2⟩
theorem turns_rev : ∀ {st : List Point}, Turns st → TurnsF st.reverse
  | [], _ => trivial
  | [_], _ => trivial
  | [_, _], _ => trivial
  | c :: t :: s :: r, ⟨h1, h2⟩ => by
    have ih := turns_rev h2
    rw [List.reverse_cons, List.reverse_cons, List.append_assoc] at ih
    rw [List.reverse_cons, List.reverse_cons, List.reverse_cons, List.append_assoc, List.append_assoc]
    exact turnsF_join ih ⟨h1, trivial⟩
theorem turnsF_get : ∀ {w : List Point}, TurnsF w → ∀ x, x + 2 < w.length → 0 < cross (w.getD x default) (w.getD (x + 1) default) (w.getD (x + 2) default)
  | [], _, x, h => by simp at h
  | [_], _, x, h => by simp at h
  | [_, _], _, x, h => by simp only [List.length_cons, List.length_nil] at h; omega
  | u :: v :: w :: r, hl, 0, _ => hl.1
  | u :: v :: w :: r, hl, x + 1, h => by
    have := turnsF_get hl.2 x (by simpa using h)
    simpa using this

/-- The turn at the last corner. -/
theorem top_turn {s : List Point} (hs : StrictS s) (h5 : ¬ (chainR s).length + (chainR s.reverse).length < 5) {x y M : Point} {lo up : List Point} (e1 : chainR s = M :: x :: lo) (e2 : (chainR s.reverse).reverse = M :: y :: up) : 0 < cross x M y := by
  have hi := chain_inv hs
  have hu := up_inv hs
  have hl := hi.left
  rw [e1] at hl
  have hd := hi.desc
  rw [e1] at hd
  have hxM : pLt x M := (List.pairwise_cons.1 hd).1 x List.mem_cons_self
  have L2 := left_rev hu.left
  rw [e2] at L2
  have hys : y ∈ s := hu.sub y (by rw [← List.mem_reverse, e2]; simp)
  have htop := hi.top M _ e1
  have hyM : pLt y M := by
    have ha := hu.asc
    have hr : (chainR s.reverse).reverse.Pairwise (fun a b => pLt b a) := List.pairwise_reverse.2 ha
    rw [e2] at hr
    exact (List.pairwise_cons.1 hr).1 y List.mem_cons_self
  rcases Int.lt_or_eq_of_le (hl.1 y hys) with h | h
  · exact h
  exfalso
  -- all points lie on one line
  have key : ∀ p ∈ s, pLt p M → (M.X - x.X) * (M.Y - p.Y) - (M.X - p.X) * (M.Y - x.Y) = 0 := by
    intro p hp hpM
    have q1 := hl.1 p hp
    have q2 := L2.1 p hp
    have a1 := vec_trans (lt_pos hxM) (lt_pos hyM) (lt_pos hpM) (by unfold cross at h; grind) (by unfold cross at q2; grind)
    unfold cross at q1
    have e : (M.X - x.X) * (p.Y - x.Y) - (p.X - x.X) * (M.Y - x.Y) = -((M.X - x.X) * (M.Y - p.Y) - (M.X - p.X) * (M.Y - x.Y)) := by clear q1 q2 a1; grind
    omega
  have par : ∀ p q, p ∈ s → q ∈ s → pLt p M → pLt q M → (M.X - p.X) * (M.Y - q.Y) - (M.X - q.X) * (M.Y - p.Y) = 0 := by
    intro p q hp hq hpM hqM
    have k1 := key p hp hpM
    have k2 := key q hq hqM
    have b1 := vec_trans (lt_pos hpM) (lt_pos hxM) (lt_pos hqM) (by omega) (by omega)
    have b2 := vec_trans (lt_pos hqM) (lt_pos hxM) (lt_pos hpM) (by omega) (by omega)
    omega
  have c1 : (chainR s).length ≤ 2 := by
    rw [e1]
    match lo, e1 with
    | [], _ => simp
    | z :: lo', e1 =>
      have ht := hi.turns
      rw [e1] at ht
      have hzs : z ∈ s := hi.sub z (by rw [e1]; simp)
      have hxs : x ∈ s := hi.sub x (by rw [e1]; simp)
      have hzM : pLt z M := by
        have hd' := hi.desc
        rw [e1] at hd'
        exact (List.pairwise_cons.1 hd').1 z (by simp)
      have := par z x hzs hxs hzM hxM
      have t1 := ht.1
      have e : cross z x M = (M.X - z.X) * (M.Y - x.Y) - (M.X - x.X) * (M.Y - z.Y) := by unfold cross; clear t1 this; grind
      omega
  have c2 : (chainR s.reverse).length ≤ 2 := by
    rw [← List.length_reverse, e2]
    match up, e2 with
    | [], _ => simp
    | z :: up', e2 =>
      have ht := turns_rev hu.turns
      rw [e2] at ht
      have hzs : z ∈ s := hu.sub z (by rw [← List.mem_reverse, e2]; simp)
      have hzM : pLt z M := by
        have hr : (chainR s.reverse).reverse.Pairwise (fun a b => pLt b a) := List.pairwise_reverse.2 hu.asc
        rw [e2] at hr
        exact (List.pairwise_cons.1 hr).1 z (by simp)
      have := par y z hys hzs hyM hzM
      have t1 := ht.1
      have e : cross M y z = (M.X - y.X) * (M.Y - z.Y) - (M.X - z.X) * (M.Y - y.Y) := by unfold cross; clear t1 this; grind
      omega
  omega
end Saw
end Go.SL
