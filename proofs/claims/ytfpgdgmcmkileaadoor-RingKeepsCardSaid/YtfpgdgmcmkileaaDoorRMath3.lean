/- The ring laws' plain mathematics, part 3: neighbours, cleaning. -/
import Derived.Test.YtfpgdgmcmkileaaDoorRMath2
set_option linter.unusedVariables false
set_option linter.unusedSimpArgs false
set_option linter.unusedSectionVars false
namespace Go.SL
namespace Saw

theorem meas_le (a : Ring) : (meas a).length ≤ a.Read.length := by unfold meas; exact Nat.le_trans (List.length_filter_le _ _) (by simp)

theorem next_up_loop (a : Ring) (h : a.Read.length ≤ 1000) {k : Nat} (hk : k < (meas a).length) : ∀ (n c : Nat), 1 ≤ c → c ≤ gap a k + 1 → gap a k + 1 < c + n →
    ref12_next_L1 a.Read 1 n (((Mi a k + c) % a.Read.length : Nat) : Int) = some ((Mi a ((k + 1) % (meas a).length) : Nat) : Int)
  | 0, c, h1, h2, h3 => by omega
  | n + 1, c, h1, h2, h3 => by
    have h0 := Mi_ok hk
    have hlt : (Mi a k + c) % a.Read.length < a.Read.length := Nat.mod_lt _ (by omega)
    unfold ref12_next_L1
    rw [inb_t (by omega) (by omega), nz_t (by omega)]
    simp only [cond_true, Int.toNat_natCast]
    rw [show (a.Read.getD ((Mi a k + c) % a.Read.length) default).Ok = okAt a ((Mi a k + c) % a.Read.length) from rfl]
    by_cases hc : c = gap a k + 1
    · subst hc
      rw [gap_next hk, (Mi_ok (Nat.mod_lt _ (by omega))).2]
      rfl
    · rw [gap_not hk h1 (by omega)]
      have e : w64 (w64 ((((Mi a k + c) % a.Read.length : Nat) : Int) + 1) + ((a.Read.length : Nat) : Int)) = (((Mi a k + c) % a.Read.length + 1 + a.Read.length : Nat) : Int) := by
        rw [w64_id (n := _ + 1) (by omega) (by omega), w64_id (by omega) (by omega)]; omega
      rw [e, tmod_nat, Nat.add_mod_right, Nat.mod_add_mod, Nat.add_assoc]
      exact next_up_loop a h hk n (c + 1) (by omega) (by omega) (by omega)

theorem next_dn_loop (a : Ring) (h : a.Read.length ≤ 1000) {k : Nat} (hk : k < (meas a).length) : ∀ (n c : Nat), c ≤ gap a k → c < n →
    ref12_next_L1 a.Read (-1) n (((Mi a k + c) % a.Read.length : Nat) : Int) = some ((Mi a k : Nat) : Int)
  | 0, c, h1, h2 => by omega
  | n + 1, c, h1, h2 => by
    have h0 := Mi_ok hk
    have hg := gap_lt hk
    have hlt : (Mi a k + c) % a.Read.length < a.Read.length := Nat.mod_lt _ (by omega)
    unfold ref12_next_L1
    rw [inb_t (by omega) (by omega), nz_t (by omega)]
    simp only [cond_true, Int.toNat_natCast]
    rw [show (a.Read.getD ((Mi a k + c) % a.Read.length) default).Ok = okAt a ((Mi a k + c) % a.Read.length) from rfl]
    by_cases hc : c = 0
    · subst hc
      rw [Nat.add_zero, mod_lo h0.1, h0.2]
      rfl
    · rw [gap_not hk (by omega) h1]
      have e : w64 (w64 ((((Mi a k + c) % a.Read.length : Nat) : Int) + -1) + ((a.Read.length : Nat) : Int)) = (((Mi a k + c) % a.Read.length + (a.Read.length - 1) : Nat) : Int) := by
        rw [w64_id (n := _ + -1) (by omega) (by omega), w64_id (by omega) (by omega)]; omega
      rw [e, tmod_nat, Nat.mod_add_mod, show Mi a k + c + (a.Read.length - 1) = Mi a k + (c - 1) + a.Read.length by omega, Nat.add_mod_right]
      exact next_dn_loop a h hk n (c - 1) (by omega) (by omega)

theorem next_up (a : Ring) (h : a.Read.length ≤ 1000) {k d : Nat} (hk : k < (meas a).length) (hd : d ≤ gap a k) :
    ref12_next a.Read (((Mi a k + d) % a.Read.length : Nat) : Int) 1 = some ((Mi a ((k + 1) % (meas a).length) : Nat) : Int) := by
  have h0 := Mi_ok hk
  have hlt : (Mi a k + d) % a.Read.length < a.Read.length := Nat.mod_lt _ (by omega)
  have hg := gap_lt hk
  unfold ref12_next
  rw [nz_t (by omega)]
  have e : w64 (w64 ((((Mi a k + d) % a.Read.length : Nat) : Int) + 1) + ((a.Read.length : Nat) : Int)) = (((Mi a k + d) % a.Read.length + 1 + a.Read.length : Nat) : Int) := by
    rw [w64_id (n := _ + 1) (by omega) (by omega), w64_id (by omega) (by omega)]; omega
  rw [e, tmod_nat, Nat.add_mod_right, Nat.mod_add_mod, Nat.add_assoc, next_up_loop a h hk FUEL (d + 1) (by omega) (by omega) (by rw [FUEL_eq]; omega)]
  rfl

theorem next_dn (a : Ring) (h : a.Read.length ≤ 1000) {k d : Nat} (hk : k < (meas a).length) (h1 : 1 ≤ d) (hd : d ≤ gap a k + 1) :
    ref12_next a.Read (((Mi a k + d) % a.Read.length : Nat) : Int) (-1) = some ((Mi a k : Nat) : Int) := by
  have h0 := Mi_ok hk
  have hlt : (Mi a k + d) % a.Read.length < a.Read.length := Nat.mod_lt _ (by omega)
  have hg := gap_lt hk
  unfold ref12_next
  rw [nz_t (by omega)]
  have e : w64 (w64 ((((Mi a k + d) % a.Read.length : Nat) : Int) + -1) + ((a.Read.length : Nat) : Int)) = (((Mi a k + d) % a.Read.length + (a.Read.length - 1) : Nat) : Int) := by
    rw [w64_id (n := _ + -1) (by omega) (by omega), w64_id (by omega) (by omega)]; omega
  rw [e, tmod_nat, Nat.mod_add_mod, show Mi a k + d + (a.Read.length - 1) = Mi a k + (d - 1) + a.Read.length by omega, Nat.add_mod_right, next_dn_loop a h hk FUEL (d - 1) (by omega) (by rw [FUEL_eq]; omega)]
  rfl

/-- A measured one's neighbours. -/
theorem next_of (a : Ring) (h : a.Read.length ≤ 1000) {k : Nat} (hk : k < (meas a).length) : ref12_next a.Read ((Mi a k : Nat) : Int) 1 = some ((Mi a ((k + 1) % (meas a).length) : Nat) : Int) := by
  have := next_up a h hk (Nat.zero_le (gap a k))
  rwa [Nat.add_zero, mod_lo (Mi_ok hk).1] at this
theorem prev_of (a : Ring) (h : a.Read.length ≤ 1000) {k : Nat} (hk : k < (meas a).length) : ref12_next a.Read ((Mi a k : Nat) : Int) (-1) = some ((Mi a ((k + ((meas a).length - 1)) % (meas a).length) : Nat) : Int) := by
  have hk' : (k + ((meas a).length - 1)) % (meas a).length < (meas a).length := Nat.mod_lt _ (by omega)
  have := next_dn a h hk' (show 1 ≤ gap a _ + 1 by omega) (Nat.le_refl _)
  rw [gap_next hk', Nat.mod_add_mod, show k + ((meas a).length - 1) + 1 = k + (meas a).length by omega, Nat.add_mod_right, mod_lo hk] at this
  exact this

/-! ### Cleaning -/

def farB (p q : Point) (r : Int) : Bool := decide (w64 (p.X - q.X) > r) || (decide (w64 (q.X - p.X) > r) || (decide (w64 (p.Y - q.Y) > r) || decide (w64 (q.Y - p.Y) > r)))

theorem imax_gt (x y r : Int) : decide (imax x y > r) = (decide (x > r) || decide (y > r)) := by
  unfold imax
  by_cases h1 : x > r <;> by_cases h2 : y > r <;> by_cases h3 : y > x <;> simp [h1, h2, h3] <;> omega

theorem far_eq (p q : Point) (r : Int) : ring_far p q r = some (farB p q r) := by
  unfold ring_far ring_far_k1 farB
  rw [imax_gt, imax_gt]
  cases decide (w64 (p.X - q.X) > r) <;> cases decide (w64 (q.X - p.X) > r) <;> simp
theorem apart_eq (p q : Point) (r : Int) : ref12_apart p q r = some (farB p q r) := by
  unfold ref12_apart ref12_apart_k1 farB
  cases decide (w64 (p.X - q.X) > r) <;> cases decide (w64 (q.X - p.X) > r) <;> cases decide (w64 (p.Y - q.Y) > r) <;> simp

def Pt (a : Ring) (i : Nat) : Point := (a.Read.getD i default).P
def nb (a : Ring) (k e : Nat) : Nat := Mi a ((k + e) % (meas a).length)
/-- Both neighbours are far. -/
def Ek (a : Ring) (r : Int) (k : Nat) : Bool := farB (Pt a (Mi a k)) (Pt a (nb a k ((meas a).length - 1))) r && farB (Pt a (Mi a k)) (Pt a (nb a k 1)) r
def dropB (a : Ring) (r : Int) (q : Nat) : Bool := (List.range (meas a).length).any fun k => decide (Mi a k = q) && Ek a r k
theorem Mi_inj {a : Ring} {i j : Nat} (hi : i < (meas a).length) (hj : j < (meas a).length) (h : Mi a i = Mi a j) : i = j := by
  rcases Nat.lt_trichotomy i j with h1 | h1 | h1
  · have := Mi_lt h1 hj; omega
  · exact h1
  · have := Mi_lt h1 hi; omega
theorem dropB_Mi {a : Ring} {r : Int} {k : Nat} (hk : k < (meas a).length) : dropB a r (Mi a k) = Ek a r k := by
  unfold dropB
  cases he : Ek a r k with
  | true =>
    rw [List.any_eq_true]
    exact ⟨k, List.mem_range.2 hk, by simp [he]⟩
  | false =>
    rw [List.any_eq_false]
    intro j hj
    have hj' := List.mem_range.1 hj
    by_cases h : Mi a j = Mi a k
    · rw [Mi_inj hj' hk h, he]; simp
    · simp [h]

def zeroR : Reading := Reading.mk (Point.mk 0 0) false
def clF (a : Ring) (r : Int) (l : List Reading) (i : Nat) : List Reading := bif dropB a r i then l.set i zeroR else l
theorem clF_len (a : Ring) (r : Int) (l : List Reading) (i : Nat) : (clF a r l i).length = l.length := by
  unfold clF
  cases dropB a r i <;> simp
theorem clF_fold_len (a : Ring) (r : Int) : ∀ (m : List Nat) (l : List Reading), (m.foldl (clF a r) l).length = l.length
  | [], _ => rfl
  | i :: m, l => by rw [List.foldl_cons, clF_fold_len a r m, clF_len]

section
variable (a : Ring) (r : Int) (h : a.Read.length ≤ 1000)
include h

theorem L3_two (k n : Nat) (b : Bool) : ring_Clean_L3 a r (ints (meas a)) (k : Int) (n + 1) b 2 = some b := by
  rw [ring_Clean_L3]
  rfl

theorem L3_step (k n : Nat) (hk : k < (meas a).length) (b : Bool) (x x1 : Int) (e : Nat) (hx : decide (x < 2) = true) (hx2 : inb x 2 = true) (hx1 : w64 (x + 1) = x1)
    (he : w64 (w64 ((k : Int) + (((meas a).length : Nat) : Int)) + ([-1, 1] : List Int).getD x.toNat 0) = ((k + e : Nat) : Int)) :
    ring_Clean_L3 a r (ints (meas a)) (k : Int) (n + 1) b x = ring_Clean_L3 a r (ints (meas a)) (k : Int) n (b && farB (Pt a (Mi a k)) (Pt a (nb a k e)) r) x1 := by
  have hk' : (k + e) % (meas a).length < (meas a).length := Nat.mod_lt _ (by omega)
  have h1 := Mi_ok hk'
  have h0 := Mi_ok hk
  rw [ring_Clean_L3, hx, hx2, ints_len, he, nz_t (by omega), tmod_nat, inb_t (by omega) (by omega)]
  simp only [cond_true, Int.toNat_natCast, ints_getD]
  rw [show (meas a).getD ((k + e) % (meas a).length) 0 = nb a k e from rfl, show (meas a).getD k 0 = Mi a k from rfl, inb_t (show 0 ≤ ((nb a k e : Nat) : Int) by omega) (by unfold nb; omega), inb_t (show 0 ≤ ((Mi a k : Nat) : Int) by omega) (by omega)]
  simp only [cond_true, Int.toNat_natCast, far_eq, Option.bind_some, ring_Clean_k4, hx1]
  cases b <;> rfl

theorem L3_eq (k : Nat) (hk : k < (meas a).length) : ring_Clean_L3 a r (ints (meas a)) (k : Int) FUEL true 0 = some (Ek a r k) := by
  have hl := meas_le a
  rw [FUEL_eq, show (4611686018427387904 : Nat) = 4611686018427387901 + 1 + 1 + 1 from rfl]
  rw [L3_step a r h k _ hk true 0 1 ((meas a).length - 1) (by decide) (by decide) (by kernel_rfl) (by
    rw [show ([-1, 1] : List Int).getD (0 : Int).toNat 0 = -1 from rfl, w64_id (n := (k : Int) + _) (by omega) (by omega), w64_id (by omega) (by omega)]; omega)]
  rw [L3_step a r h k _ hk _ 1 2 ((meas a).length + 1) (by decide) (by decide) (by kernel_rfl) (by
    rw [show ([-1, 1] : List Int).getD (1 : Int).toNat 0 = 1 from rfl, w64_id (n := (k : Int) + _) (by omega) (by omega), w64_id (by omega) (by omega)]; omega)]
  rw [L3_two a r h]
  have e : nb a k ((meas a).length + 1) = nb a k 1 := by
    unfold nb
    rw [show k + ((meas a).length + 1) = k + 1 + (meas a).length by omega, Nat.add_mod_right]
  rw [e]
  simp [Ek]

theorem clean_loop : ∀ (n x : Nat) (l : List Reading), (meas a).length < x + n → x ≤ (meas a).length → l.length = a.Read.length →
    ring_Clean_L2 a r (ints (meas a)) n (x : Int) l = some (((meas a).drop x).foldl (clF a r) l)
  | 0, x, l, h1, h2, _ => by omega
  | n + 1, x, l, h1, h2, h3 => by
    have hl := meas_le a
    unfold ring_Clean_L2
    rw [ints_len]
    by_cases hx : x < (meas a).length
    · have h0 := Mi_ok hx
      rw [lt_t hx, inb_t (by omega) (by omega), L3_eq a r h x hx, List.drop_eq_getElem_cons hx, List.foldl_cons]
      have hg : (meas a)[x] = Mi a x := by have := Mi_get hx; rw [List.getElem?_eq_getElem hx] at this; exact Option.some.inj this
      rw [hg]
      simp only [cond_true, Option.bind_some, Int.toNat_natCast, ints_getD, ring_Clean_k5, w64_succ x (by omega)]
      rw [show (meas a).getD x 0 = Mi a x from rfl, inb_t (show 0 ≤ ((Mi a x : Nat) : Int) by omega) (by omega)]
      simp only [cond_true, Int.toNat_natCast]
      have ih := clean_loop n (x + 1) (clF a r l (Mi a x)) (by omega) (by omega) (by rw [clF_len]; exact h3)
      rw [← ih]
      unfold clF
      rw [dropB_Mi hx]
      cases Ek a r x <;> rfl
    · rw [lt_f hx, List.drop_of_length_le (by omega)]
      rfl

theorem ref_clean_loop : ∀ (n x : Nat) (l : List Reading), a.Read.length < x + n → x ≤ a.Read.length → l.length = a.Read.length →
    ref12_Clean_L2 a r n (x : Int) l = some ((List.range' x (a.Read.length - x)).foldl (fun l i => if okAt a i = true then clF a r l i else l) l)
  | 0, x, l, h1, h2, _ => by omega
  | n + 1, x, l, h1, h2, h3 => by
    unfold ref12_Clean_L2
    by_cases hx : x < a.Read.length
    · rw [lt_t hx, inb_t (by omega) (by omega), show a.Read.length - x = (a.Read.length - (x + 1)) + 1 by omega, List.range'_succ, List.foldl_cons]
      simp only [cond_true, Int.toNat_natCast, ref12_Clean_k3, ref12_Clean_k4, w64_succ x (by omega)]
      rw [show (a.Read.getD x default).Ok = okAt a x from rfl]
      cases ho : okAt a x with
      | false => exact ref_clean_loop n (x + 1) l (by omega) (by omega) h3
      | true =>
        obtain ⟨k, hk, hkx⟩ := meas_mem hx ho
        subst hkx
        have hp : (k + ((meas a).length - 1)) % (meas a).length < (meas a).length := Nat.mod_lt _ (by omega)
        have hn : (k + 1) % (meas a).length < (meas a).length := Nat.mod_lt _ (by omega)
        have h4 := Mi_ok hp
        have h5 := Mi_ok hn
        rw [next_of a h hk, prev_of a h hk]
        simp only [Bool.not_true, cond_false, Option.bind_some, Int.toNat_natCast]
        rw [inb_t (show 0 ≤ ((Mi a ((k + ((meas a).length - 1)) % (meas a).length) : Nat) : Int) by omega) (by omega), inb_t (show 0 ≤ ((Mi a ((k + 1) % (meas a).length) : Nat) : Int) by omega) (by omega), inb_t (show 0 ≤ ((Mi a k : Nat) : Int) by omega) (by omega)]
        simp only [cond_true, apart_eq, Option.bind_some, if_true]
        have ih := ref_clean_loop n (Mi a k + 1) (clF a r l (Mi a k)) (by omega) (by omega) (by rw [clF_len]; exact h3)
        rw [← ih]
        unfold clF
        rw [dropB_Mi hk]
        unfold Ek nb
        rw [show (a.Read.getD (Mi a k) default).P = Pt a (Mi a k) from rfl, show (a.Read.getD (Mi a ((k + ((meas a).length - 1)) % (meas a).length)) default).P = Pt a (Mi a ((k + ((meas a).length - 1)) % (meas a).length)) from rfl,
          show (a.Read.getD (Mi a ((k + 1) % (meas a).length)) default).P = Pt a (Mi a ((k + 1) % (meas a).length)) from rfl]
        cases farB (Pt a (Mi a k)) (Pt a (Mi a ((k + ((meas a).length - 1)) % (meas a).length))) r <;> cases farB (Pt a (Mi a k)) (Pt a (Mi a ((k + 1) % (meas a).length))) r <;> rfl
    · rw [lt_f hx, show a.Read.length - x = 0 by omega]
      rfl

end

def cleaned (a : Ring) (r : Int) : Ring := bif decide (r < 0) then a else bif decide ((((meas a).length : Nat) : Int) < 2) then a else bif chk a != 0 then a else ⟨a.Z, (meas a).foldl (clF a r) a.Read⟩

theorem ring_clean (a : Ring) (r : Int) (h : a.Read.length ≤ 1000) : ring_Clean a r = some (cleaned a r) := by
  have hl := meas_le a
  unfold ring_Clean ring_Clean_k1 cleaned
  rw [clone_eq a h, measured_eq a h]
  simp only [Option.bind_some, ring_check, ints_len]
  have hL : ring_Clean_L2 a r (ints (meas a)) FUEL 0 a.Read = some ((meas a).foldl (clF a r) a.Read) := by
    have := clean_loop a r h FUEL 0 a.Read (by rw [FUEL_eq]; omega) (by omega) rfl
    rwa [List.drop_zero] at this
  rw [hL]
  cases decide (r < 0) <;> cases decide ((((meas a).length : Nat) : Int) < 2) <;> cases (chk a != 0) <;> rfl

theorem ref_clean (a : Ring) (r : Int) (h : a.Read.length ≤ 1000) : ref12_Clean a r = some (cleaned a r) := by
  have hl := meas_le a
  obtain ⟨L, _, hg⟩ := gaps a h
  unfold ref12_Clean ref12_Clean_k1 cleaned
  rw [hg, copied_eq a h]
  simp only [Option.bind_some, ref_check]
  have hw : w64 (((a.Read.length : Nat) : Int) - ((a.Read.length - (meas a).length : Nat) : Int)) = (((meas a).length : Nat) : Int) := by
    rw [w64_id (by omega) (by omega)]; omega
  have hL : ref12_Clean_L2 a r FUEL 0 a.Read = some ((meas a).foldl (clF a r) a.Read) := by
    have := ref_clean_loop a r h FUEL 0 a.Read (by rw [FUEL_eq]; omega) (by omega) rfl
    rw [Nat.sub_zero, ← List.range_eq_range', ← List.foldl_filter] at this
    exact this
  rw [hw, hL]
  cases decide (r < 0) <;> cases decide ((((meas a).length : Nat) : Int) < 2) <;> cases (chk a != 0) <;> rfl

theorem cleaned_len (a : Ring) (r : Int) : (cleaned a r).Read.length = a.Read.length := by
  unfold cleaned
  cases decide (r < 0) <;> cases decide ((((meas a).length : Nat) : Int) < 2) <;> cases (chk a != 0) <;> simp [clF_fold_len]
theorem cleaned_Z (a : Ring) (r : Int) : (cleaned a r).Z = a.Z := by
  unfold cleaned
  cases decide (r < 0) <;> cases decide ((((meas a).length : Nat) : Int) < 2) <;> cases (chk a != 0) <;> rfl
end Saw
end Go.SL
