/- The ring laws' plain mathematics, part 2: the measured readings, their gaps. -/
import Derived.Test.YtfpgdgmcmkileaaDoorRMath1
set_option linter.unusedVariables false
set_option linter.unusedSimpArgs false
namespace Go.SL
namespace Saw

def okAt (a : Ring) (i : Nat) : Bool := (a.Read.getD i default).Ok
def meas (a : Ring) : List Nat := (List.range a.Read.length).filter (okAt a)
def Mi (a : Ring) (k : Nat) : Nat := (meas a).getD k 0
def ints (l : List Nat) : List Int := List.map (fun i : Nat => (i : Int)) l

theorem ints_len (l : List Nat) : (ints l).length = l.length := by simp [ints]
theorem ints_getD (l : List Nat) (k : Nat) : (ints l).getD k default = ((l.getD k 0 : Nat) : Int) := by
  unfold ints
  rw [List.getD_eq_getElem?_getD, List.getD_eq_getElem?_getD, List.getElem?_map]
  cases l[k]? <;> rfl
theorem w64_succ (x : Nat) (h : x ≤ 1000000) : w64 ((x : Int) + 1) = ((x + 1 : Nat) : Int) := by rw [w64_id (by omega) (by omega)]; omega
theorem lt_t {x n : Nat} (h : x < n) : decide ((x : Int) < ((n : Nat) : Int)) = true := decide_eq_true (by omega)
theorem lt_f {x n : Nat} (h : ¬ x < n) : decide ((x : Int) < ((n : Nat) : Int)) = false := decide_eq_false (by omega)
theorem tmod_nat (a b : Nat) : Int.tmod (a : Int) (b : Int) = ((a % b : Nat) : Int) := rfl

theorem meas_loop (a : Ring) : ∀ (n x : Nat) (l : List Int), a.Read.length < x + n → x ≤ a.Read.length → a.Read.length ≤ 1000 → l.length ≤ x →
    ring_measured_L1 a n l (x : Int) = some (l ++ ints ((List.range' x (a.Read.length - x)).filter (okAt a)))
  | 0, x, l, h1, h2, _, _ => by omega
  | n + 1, x, l, h1, h2, h3, h4 => by
    unfold ring_measured_L1
    by_cases hx : x < a.Read.length
    · rw [lt_t hx, inb_t (by omega) (by omega), show a.Read.length - x = (a.Read.length - (x + 1)) + 1 by omega, List.range'_succ, List.filter_cons, room_t (n := l.length + 1) (by omega)]
      simp only [cond_true, Int.toNat_natCast, ring_measured_k2, w64_succ x (by omega)]
      rw [show (a.Read.getD x default).Ok = okAt a x from rfl]
      cases hk : okAt a x with
      | true =>
        rw [cond_true, meas_loop a n (x + 1) _ (by omega) (by omega) h3 (by simp; omega)]
        simp [ints]
      | false =>
        rw [cond_false, meas_loop a n (x + 1) _ (by omega) (by omega) h3 (by omega)]
        simp
    · rw [lt_f hx, show a.Read.length - x = 0 by omega]
      simp [ints]

theorem measured_eq (a : Ring) (h : a.Read.length ≤ 1000) : ring_measured a = some (ints (meas a)) := by
  unfold ring_measured
  have := meas_loop a FUEL 0 [] (by rw [FUEL_eq]; omega) (by omega) h (by simp)
  have h' : ring_measured_L1 a FUEL [] 0 = some (ints (meas a)) := by
    rw [show (0 : Int) = ((0 : Nat) : Int) from rfl, this, List.nil_append, Nat.sub_zero, ← List.range_eq_range']
    rfl
  rw [h']
  rfl

/-! ### The order of the measured indices -/

theorem Mi_get {a : Ring} {k : Nat} (h : k < (meas a).length) : (meas a)[k]? = some (Mi a k) := by
  unfold Mi
  rw [List.getD_eq_getElem?_getD, List.getElem?_eq_getElem h]
  rfl
theorem Mi_ok {a : Ring} {k : Nat} (h : k < (meas a).length) : Mi a k < a.Read.length ∧ okAt a (Mi a k) = true := by
  have := List.mem_of_getElem? (Mi_get h)
  unfold meas at this
  rw [List.mem_filter, List.mem_range] at this
  exact this
theorem meas_mem {a : Ring} {q : Nat} (h1 : q < a.Read.length) (h2 : okAt a q = true) : ∃ t, t < (meas a).length ∧ Mi a t = q := by
  have hm : q ∈ meas a := by unfold meas; rw [List.mem_filter, List.mem_range]; exact ⟨h1, h2⟩
  obtain ⟨t, ht, he⟩ := List.mem_iff_getElem.1 hm
  exact ⟨t, ht, by unfold Mi; rw [List.getD_eq_getElem?_getD, List.getElem?_eq_getElem ht, he]; rfl⟩
theorem Mi_lt {a : Ring} {i j : Nat} (hij : i < j) (hj : j < (meas a).length) : Mi a i < Mi a j := by
  have hp : (meas a).Pairwise (· < ·) := List.Pairwise.filter _ List.pairwise_lt_range
  have h1 := List.pairwise_iff_getElem.1 hp i j (by omega) hj hij
  have e1 : (meas a)[i]'(by omega) = Mi a i := by unfold Mi; rw [List.getD_eq_getElem?_getD, List.getElem?_eq_getElem (by omega)]; rfl
  have e2 : (meas a)[j] = Mi a j := by unfold Mi; rw [List.getD_eq_getElem?_getD, List.getElem?_eq_getElem hj]; rfl
  rwa [e1, e2] at h1
theorem Mi_le {a : Ring} {i j : Nat} (hij : i ≤ j) (hj : j < (meas a).length) : Mi a i ≤ Mi a j := by
  rcases Nat.lt_or_eq_of_le hij with h | rfl
  · exact Nat.le_of_lt (Mi_lt h hj)
  · exact Nat.le_refl _

/-- How many missing lie behind the k-th measured. -/
def gap (a : Ring) (k : Nat) : Nat := if k + 1 < (meas a).length then Mi a (k + 1) - Mi a k - 1 else Mi a 0 + a.Read.length - Mi a k - 1

theorem behind_eq (a : Ring) (h : a.Read.length ≤ 1000) {k : Nat} (hk : k < (meas a).length) : ring_behind a (ints (meas a)) (k : Int) = some ((gap a k : Nat) : Int) := by
  have h0 := Mi_ok hk
  have hl : (meas a).length ≤ a.Read.length := by unfold meas; exact Nat.le_trans (List.length_filter_le _ _) (by simp)
  unfold ring_behind gap
  rw [w64_succ k (by omega), ints_len]
  by_cases hk1 : k + 1 < (meas a).length
  · have h1 := Mi_ok hk1
    have h2 := Mi_lt (a := a) (show k < k + 1 by omega) hk1
    rw [lt_t hk1, inb_t (by omega) (by omega), inb_t (by omega) (by omega), if_pos hk1]
    simp only [cond_true, Int.toNat_natCast, ints_getD]
    rw [show (meas a).getD (k + 1) 0 = Mi a (k + 1) from rfl, show (meas a).getD k 0 = Mi a k from rfl]
    rw [w64_id (n := ((Mi a (k + 1) : Nat) : Int) - _) (by omega) (by omega), w64_id (by omega) (by omega)]
    congr 1
    omega
  · have h1 := Mi_ok (a := a) (k := 0) (by omega)
    have h2 := Mi_le (a := a) (Nat.zero_le k) hk
    rw [lt_f hk1, cond_false, inb_t (by omega) (by omega), inb_t (by omega) (by omega), if_neg hk1]
    simp only [cond_true, Int.toNat_natCast, Int.toNat_zero, ints_getD]
    rw [show (meas a).getD 0 0 = Mi a 0 from rfl, show (meas a).getD k 0 = Mi a k from rfl]
    rw [w64_id (n := ((Mi a 0 : Nat) : Int) + _) (by omega) (by omega), w64_id (n := ((Mi a 0 : Nat) : Int) + _ - _) (by omega) (by omega), w64_id (by omega) (by omega)]
    congr 1
    omega

theorem mod_lo {x n : Nat} (h : x < n) : x % n = x := Nat.mod_eq_of_lt h
theorem mod_hi {x n : Nat} (h1 : n ≤ x) (h2 : x < 2 * n) : x % n = x - n := by
  rw [Nat.mod_eq_sub_mod h1, Nat.mod_eq_of_lt (by omega)]

theorem gap_lt {a : Ring} {k : Nat} (hk : k < (meas a).length) : gap a k + 1 ≤ a.Read.length := by
  have h0 := Mi_ok hk
  unfold gap
  split
  · rename_i h
    have := Mi_ok h
    omega
  · have := Mi_le (a := a) (Nat.zero_le k) hk
    omega

/-- Behind the k-th measured nothing is measured for its gap's length .. -/
theorem gap_not {a : Ring} {k d : Nat} (hk : k < (meas a).length) (h1 : 1 ≤ d) (h2 : d ≤ gap a k) : okAt a ((Mi a k + d) % a.Read.length) = false := by
  have h0 := Mi_ok hk
  have hg := gap_lt hk
  cases ho : okAt a ((Mi a k + d) % a.Read.length) with
  | false => rfl
  | true =>
    obtain ⟨t, ht, he⟩ := meas_mem (Nat.mod_lt _ (by omega)) ho
    unfold gap at h2
    split at h2
    · rename_i hk1
      have h3 := Mi_ok hk1
      rw [mod_lo (by omega)] at he
      rcases Nat.lt_or_ge t (k + 1) with h | h
      · have := Mi_le (a := a) (show t ≤ k by omega) hk; omega
      · have := Mi_le (a := a) h ht; omega
    · rename_i hk1
      have ht' := Mi_le (a := a) (show t ≤ k by omega) hk
      have hz := Mi_le (a := a) (Nat.zero_le t) ht
      by_cases hc : Mi a k + d < a.Read.length
      · rw [mod_lo hc] at he; omega
      · rw [mod_hi (by omega) (by omega)] at he; omega
/-- .. and then the next measured. -/
theorem gap_next {a : Ring} {k : Nat} (hk : k < (meas a).length) : (Mi a k + (gap a k + 1)) % a.Read.length = Mi a ((k + 1) % (meas a).length) := by
  have h0 := Mi_ok hk
  unfold gap
  split
  · rename_i hk1
    have h3 := Mi_ok hk1
    have h4 := Mi_lt (a := a) (show k < k + 1 by omega) hk1
    rw [mod_lo hk1, show Mi a k + (Mi a (k + 1) - Mi a k - 1 + 1) = Mi a (k + 1) by omega, mod_lo h3.1]
  · rename_i hk1
    have hz := Mi_ok (a := a) (k := 0) (by omega)
    have hle := Mi_le (a := a) (Nat.zero_le k) hk
    rw [show k + 1 = (meas a).length by omega, Nat.mod_self, show Mi a k + (Mi a 0 + a.Read.length - Mi a k - 1 + 1) = Mi a 0 + a.Read.length by omega, Nat.add_mod_right, mod_lo hz.1]

theorem last_below (a : Ring) (q : Nat) : ∀ (m j : Nat), (meas a).length = j + m → 1 ≤ m → Mi a j < q → ∃ k, k < (meas a).length ∧ Mi a k < q ∧ (k + 1 < (meas a).length → q ≤ Mi a (k + 1))
  | 0, _, _, h, _ => by omega
  | m + 1, j, hm, _, hj => by
    by_cases h : j + 1 < (meas a).length
    · by_cases hq : Mi a (j + 1) < q
      · exact last_below a q m (j + 1) (by omega) (by omega) hq
      · exact ⟨j, by omega, hj, fun _ => by omega⟩
    · exact ⟨j, by omega, hj, fun h' => absurd h' h⟩

/-- Every missing lies behind a measured. -/
theorem in_gap {a : Ring} {q : Nat} (hm : 1 ≤ (meas a).length) (hq : q < a.Read.length) (ho : okAt a q = false) : ∃ k d, k < (meas a).length ∧ 1 ≤ d ∧ d ≤ gap a k ∧ (Mi a k + d) % a.Read.length = q := by
  have hne : ∀ t, t < (meas a).length → Mi a t ≠ q := fun t ht he => by
    have := (Mi_ok ht).2
    rw [he, ho] at this
    cases this
  by_cases h0 : Mi a 0 < q
  · obtain ⟨k, hk, h1, h2⟩ := last_below a q (meas a).length 0 (by omega) hm h0
    refine ⟨k, q - Mi a k, hk, by omega, ?_, by rw [show Mi a k + (q - Mi a k) = q by omega, mod_lo hq]⟩
    unfold gap
    split
    · rename_i hk1
      have := hne (k + 1) hk1
      have := h2 hk1
      omega
    · omega
  · have hne0 := hne 0 (by omega)
    have hlast : (meas a).length - 1 < (meas a).length := by omega
    have hl := Mi_ok (a := a) hlast
    have hle := Mi_le (a := a) (Nat.zero_le ((meas a).length - 1)) hlast
    refine ⟨(meas a).length - 1, q + a.Read.length - Mi a ((meas a).length - 1), hlast, by omega, ?_, ?_⟩
    · unfold gap
      rw [if_neg (by omega)]
      omega
    · rw [show Mi a ((meas a).length - 1) + (q + a.Read.length - Mi a ((meas a).length - 1)) = q + a.Read.length by omega, Nat.add_mod_right, mod_lo hq]

/-! ### The gaps -/

theorem imax_nat (x y : Nat) : imax (x : Int) (y : Int) = ((max x y : Nat) : Int) := by
  unfold imax
  split <;> omega

theorem ring_gaps_loop (a : Ring) (h : a.Read.length ≤ 1000) : ∀ (n x mx : Nat), (meas a).length < x + n → x ≤ (meas a).length →
    ∃ R : Nat, ring_Gaps_L1 a (ints (meas a)) n (mx : Int) (x : Int) = some (R : Int) ∧ mx ≤ R ∧ (∀ k, x ≤ k → k < (meas a).length → gap a k ≤ R) ∧ (R = mx ∨ ∃ k, k < (meas a).length ∧ R = gap a k)
  | 0, x, mx, h1, h2 => by omega
  | n + 1, x, mx, h1, h2 => by
    have hl : (meas a).length ≤ a.Read.length := by unfold meas; exact Nat.le_trans (List.length_filter_le _ _) (by simp)
    unfold ring_Gaps_L1
    rw [ints_len]
    by_cases hx : x < (meas a).length
    · rw [lt_t hx, behind_eq a h hx]
      simp only [cond_true, Option.bind_some, imax_nat, w64_succ x (by omega)]
      obtain ⟨R, e, h3, h4, h5⟩ := ring_gaps_loop a h n (x + 1) (max mx (gap a x)) (by omega) (by omega)
      refine ⟨R, e, by omega, fun k hk1 hk2 => ?_, ?_⟩
      · rcases Nat.lt_or_ge x k with hk | hk
        · exact h4 k hk hk2
        · obtain rfl : k = x := by omega
          omega
      · rcases h5 with h5 | h5
        · rcases Nat.le_total mx (gap a x) with hg | hg
          · exact .inr ⟨x, hx, by omega⟩
          · exact .inl (by omega)
        · exact .inr h5
    · rw [lt_f hx]
      exact ⟨mx, rfl, Nat.le_refl _, fun k hk1 hk2 => by omega, .inl rfl⟩

theorem run_loop (a : Ring) (h : a.Read.length ≤ 1000) (q r : Nat) (hq : q < a.Read.length) (hr : r ≤ a.Read.length) (h1 : ∀ d, d < r → okAt a ((q + d) % a.Read.length) = false) (h2 : r = a.Read.length ∨ okAt a ((q + r) % a.Read.length) = true) :
    ∀ (n x : Nat), r < x + n → x ≤ r → ref12_Gaps_L2 a (q : Int) n (x : Int) = some (r : Int)
  | 0, x, h3, h4 => by omega
  | n + 1, x, h3, h4 => by
    unfold ref12_Gaps_L2
    by_cases hx : x < a.Read.length
    · have e : w64 ((q : Int) + (x : Int)) = ((q + x : Nat) : Int) := by rw [w64_id (by omega) (by omega)]; omega
      have hm : (q + x) % a.Read.length < a.Read.length := Nat.mod_lt _ (by omega)
      rw [lt_t hx, nz_t (by omega), e, tmod_nat, inb_t (by omega) (by omega)]
      simp only [cond_true, Int.toNat_natCast, ref12_Gaps_k3, w64_succ x (by omega)]
      rw [show (a.Read.getD ((q + x) % a.Read.length) default).Ok = okAt a ((q + x) % a.Read.length) from rfl]
      by_cases hxr : x < r
      · rw [h1 x hxr]
        exact run_loop a h q r hq hr h1 h2 n (x + 1) (by omega) (by omega)
      · obtain rfl : x = r := by omega
        rcases h2 with h2 | h2
        · omega
        · rw [h2]; rfl
    · rw [lt_f hx]
      obtain rfl : x = r := by omega
      rfl

theorem ref_gaps_loop (a : Ring) (h : a.Read.length ≤ 1000) (run : Nat → Nat) (hrun : ∀ q, q < a.Read.length → okAt a q = false → ref12_Gaps_L2 a (q : Int) FUEL 0 = some ((run q : Nat) : Int)) : ∀ (n x c mx : Nat), a.Read.length < x + n → x ≤ a.Read.length → c ≤ x →
    ∃ R : Nat, ref12_Gaps_L1 a n (c : Int) (mx : Int) (x : Int) = some (((c + (List.range' x (a.Read.length - x)).countP (fun i => !okAt a i) : Nat) : Int), (R : Int)) ∧ mx ≤ R ∧ (∀ q, x ≤ q → q < a.Read.length → okAt a q = false → run q ≤ R) ∧ (R = mx ∨ ∃ q, q < a.Read.length ∧ okAt a q = false ∧ R = run q)
  | 0, x, c, mx, h1, h2, _ => by omega
  | n + 1, x, c, mx, h1, h2, hc => by
    unfold ref12_Gaps_L1
    by_cases hx : x < a.Read.length
    · rw [lt_t hx, inb_t (by omega) (by omega), show a.Read.length - x = (a.Read.length - (x + 1)) + 1 by omega, List.range'_succ, List.countP_cons]
      simp only [cond_true, Int.toNat_natCast, ref12_Gaps_k4, w64_succ x (by omega), w64_succ c (by omega)]
      rw [show (a.Read.getD x default).Ok = okAt a x from rfl]
      cases ho : okAt a x with
      | true =>
        obtain ⟨R, e, h3, h4, h5⟩ := ref_gaps_loop a h run hrun n (x + 1) c mx (by omega) (by omega) (by omega)
        refine ⟨R, by rw [cond_true, e]; simp, h3, fun q hq1 hq2 hq3 => ?_, h5⟩
        rcases Nat.lt_or_ge x q with hk | hk
        · exact h4 q hk hq2 hq3
        · obtain rfl : q = x := by omega
          rw [ho] at hq3; cases hq3
      | false =>
        obtain ⟨R, e, h3, h4, h5⟩ := ref_gaps_loop a h run hrun n (x + 1) (c + 1) (max mx (run x)) (by omega) (by omega) (by omega)
        refine ⟨R, ?_, by omega, fun q hq1 hq2 hq3 => ?_, ?_⟩
        · rw [cond_false, hrun x hx ho]
          simp only [Option.bind_some, imax_nat, e, Bool.not_false, if_true]
          congr 3
          omega
        · rcases Nat.lt_or_ge x q with hk | hk
          · exact h4 q hk hq2 hq3
          · obtain rfl : q = x := by omega
            omega
        · rcases h5 with h5 | h5
          · rcases Nat.le_total mx (run x) with hg | hg
            · exact .inr ⟨x, hx, ho, by omega⟩
            · exact .inl (by omega)
          · exact .inr h5
    · rw [lt_f hx, show a.Read.length - x = 0 by omega]
      exact ⟨mx, by simp, Nat.le_refl _, fun q h1 h2 => by omega, .inl rfl⟩

/-- The run of missing at an index. -/
theorem run_ex (a : Ring) (h : a.Read.length ≤ 1000) (q : Nat) (hq : q < a.Read.length) (ho : okAt a q = false) :
    ∃ r, ref12_Gaps_L2 a (q : Int) FUEL 0 = some ((r : Nat) : Int) ∧ (((meas a).length = 0 ∧ r = a.Read.length) ∨ ∃ k d, k < (meas a).length ∧ 1 ≤ d ∧ d ≤ gap a k ∧ (Mi a k + d) % a.Read.length = q ∧ r = gap a k + 1 - d) := by
  by_cases hm : (meas a).length = 0
  · refine ⟨a.Read.length, run_loop a h q _ hq (Nat.le_refl _) (fun d _ => ?_) (.inl rfl) FUEL 0 (by rw [FUEL_eq]; omega) (by omega), .inl ⟨hm, rfl⟩⟩
    cases ho : okAt a ((q + d) % a.Read.length) with
    | false => rfl
    | true =>
      obtain ⟨t, ht, _⟩ := meas_mem (Nat.mod_lt _ (by omega)) ho
      omega
  · obtain ⟨k, d, hk, h1, h2, h3⟩ := in_gap (by omega) hq ho
    have hg := gap_lt hk
    have hs : ∀ e, (q + e) % a.Read.length = (Mi a k + (d + e)) % a.Read.length := fun e => by rw [← h3, Nat.mod_add_mod, Nat.add_assoc]
    refine ⟨gap a k + 1 - d, run_loop a h q _ hq (by omega) (fun e he => ?_) (.inr ?_) FUEL 0 (by rw [FUEL_eq]; omega) (by omega), .inr ⟨k, d, hk, h1, h2, h3, rfl⟩⟩
    · rw [hs]; exact gap_not hk (by omega) (by omega)
    · rw [hs, show d + (gap a k + 1 - d) = gap a k + 1 by omega, gap_next hk]
      exact (Mi_ok (Nat.mod_lt _ (by omega))).2

theorem count_missing (a : Ring) : (meas a).length + (List.range' 0 a.Read.length).countP (fun i => !okAt a i) = a.Read.length := by
  have := List.length_eq_countP_add_countP (okAt a) (l := List.range a.Read.length)
  rw [List.length_range] at this
  rw [← List.range_eq_range']
  unfold meas
  rw [← List.countP_eq_length_filter]
  have e : (List.range a.Read.length).countP (fun i => !okAt a i) = (List.range a.Read.length).countP (fun i => decide ¬ okAt a i = true) := by
    congr 1
    funext i
    cases okAt a i <;> rfl
  rw [e]
  omega

/-- Both gaps are the same. -/
theorem gaps (a : Ring) (h : a.Read.length ≤ 1000) : ∃ L : Nat, ring_Gaps a = some (((a.Read.length - (meas a).length : Nat) : Int), (L : Int)) ∧ ref12_Gaps a = some (((a.Read.length - (meas a).length : Nat) : Int), (L : Int)) := by
  have hl : (meas a).length ≤ a.Read.length := by unfold meas; exact Nat.le_trans (List.length_filter_le _ _) (by simp)
  have hc := count_missing a
  have hex : ∀ q, ∃ r, q < a.Read.length → okAt a q = false → ref12_Gaps_L2 a (q : Int) FUEL 0 = some ((r : Nat) : Int) ∧ (((meas a).length = 0 ∧ r = a.Read.length) ∨ ∃ k d, k < (meas a).length ∧ 1 ≤ d ∧ d ≤ gap a k ∧ (Mi a k + d) % a.Read.length = q ∧ r = gap a k + 1 - d) := fun q => by
    by_cases hq : q < a.Read.length ∧ okAt a q = false
    · obtain ⟨r, hr⟩ := run_ex a h q hq.1 hq.2
      exact ⟨r, fun _ _ => hr⟩
    · exact ⟨0, fun h1 h2 => absurd ⟨h1, h2⟩ hq⟩
  obtain ⟨run, hrun⟩ : ∃ f : Nat → Nat, ∀ q, q < a.Read.length → okAt a q = false → ref12_Gaps_L2 a (q : Int) FUEL 0 = some ((f q : Nat) : Int) ∧ (((meas a).length = 0 ∧ f q = a.Read.length) ∨ ∃ k d, k < (meas a).length ∧ 1 ≤ d ∧ d ≤ gap a k ∧ (Mi a k + d) % a.Read.length = q ∧ f q = gap a k + 1 - d) :=
    ⟨fun q => Classical.choose (hex q), fun q => Classical.choose_spec (hex q)⟩
  obtain ⟨R2, e2, _, g2, t2⟩ := ref_gaps_loop a h run (fun q h1 h2 => (hrun q h1 h2).1) FUEL 0 0 0 (by rw [FUEL_eq]; omega) (by omega) (by omega)
  have e2' : ref12_Gaps a = some (((a.Read.length - (meas a).length : Nat) : Int), (R2 : Int)) := by
    unfold ref12_Gaps
    have e3 : ref12_Gaps_L1 a FUEL 0 0 0 = some (((a.Read.length - (meas a).length : Nat) : Int), (R2 : Int)) := by
      rw [Nat.sub_zero, Nat.zero_add] at e2
      rw [show a.Read.length - (meas a).length = (List.range' 0 a.Read.length).countP (fun i => !okAt a i) by omega]
      exact e2
    rw [e3]
    rfl
  have hw : w64 (((a.Read.length : Nat) : Int) - (((meas a).length : Nat) : Int)) = ((a.Read.length - (meas a).length : Nat) : Int) := by
    rw [w64_id (by omega) (by omega)]; omega
  unfold ring_Gaps
  rw [measured_eq a h]
  simp only [Option.bind_some, ints_len]
  by_cases hm : (meas a).length = 0
  · have : ((((meas a).length : Nat) : Int) == 0) = true := by simp [hm]
    rw [this, cond_true, hw]
    have hR : R2 = a.Read.length - (meas a).length := by
      rw [hm, Nat.sub_zero]
      by_cases hn : a.Read.length = 0
      · rcases t2 with t | ⟨q, hq, _⟩ <;> omega
      · have ho : okAt a 0 = false := by
          cases ho : okAt a 0 with
          | false => rfl
          | true =>
            obtain ⟨t, ht, _⟩ := meas_mem (a := a) (q := 0) (by omega) ho
            omega
        have h1 := g2 0 (Nat.le_refl _) (by omega) ho
        have val : ∀ q, q < a.Read.length → okAt a q = false → run q = a.Read.length := fun q h1 h2 => by
          rcases (hrun q h1 h2).2 with ⟨_, h3⟩ | ⟨k, d, hk, _⟩
          · exact h3
          · omega
        rw [val 0 (by omega) ho] at h1
        rcases t2 with t | ⟨q, h3, h4, t⟩
        · omega
        · rw [t, val q h3 h4]
    exact ⟨R2, by rw [hR], e2'⟩
  · have : ((((meas a).length : Nat) : Int) == 0) = false := beq_eq_false_iff_ne.2 (by omega)
    rw [this, cond_false, hw]
    obtain ⟨R1, e1, _, g1, t1⟩ := ring_gaps_loop a h FUEL 0 0 (by rw [FUEL_eq]; omega) (by omega)
    have e1' : ring_Gaps_L1 a (ints (meas a)) FUEL 0 0 = some (R1 : Int) := e1
    rw [e1']
    have hR : R1 = R2 := by
      apply Nat.le_antisymm
      · rcases t1 with t | ⟨k, hk, t⟩
        · omega
        · by_cases hz : gap a k = 0
          · omega
          · have hg := gap_lt hk
            have ho := gap_not hk (Nat.le_refl 1) (by omega)
            have hq : (Mi a k + 1) % a.Read.length < a.Read.length := Nat.mod_lt _ (by omega)
            have h1 := g2 _ (Nat.zero_le _) hq ho
            have hv : ref12_Gaps_L2 a (((Mi a k + 1) % a.Read.length : Nat) : Int) FUEL 0 = some ((gap a k : Nat) : Int) := by
              have hs : ∀ e, ((Mi a k + 1) % a.Read.length + e) % a.Read.length = (Mi a k + (1 + e)) % a.Read.length := fun e => by rw [Nat.mod_add_mod, Nat.add_assoc]
              refine run_loop a h _ _ hq (by omega) (fun e he => ?_) (.inr ?_) FUEL 0 (by rw [FUEL_eq]; omega) (by omega)
              · rw [hs]; exact gap_not hk (by omega) (by omega)
              · rw [hs, show 1 + gap a k = gap a k + 1 by omega, gap_next hk]
                exact (Mi_ok (Nat.mod_lt _ (by omega))).2
            have h2 := (hrun _ hq ho).1
            rw [hv] at h2
            have h3 : gap a k = run ((Mi a k + 1) % a.Read.length) := by
              have := Option.some.inj h2
              omega
            omega
      · rcases t2 with t | ⟨q, h3, h4, t⟩
        · omega
        · rcases (hrun q h3 h4).2 with ⟨h5, _⟩ | ⟨k, d, hk, hd1, hd2, _, hr⟩
          · omega
          · have := g1 k (Nat.zero_le _) hk
            omega
    exact ⟨R2, by rw [hR]; rfl, e2'⟩

theorem RingChecks_true (a : Ring) (_ : wfRing a) : law12_RingChecks a = some true := by
  unfold law12_RingChecks law12_few law12_RingChecks_k1
  simp only [Option.bind_some, awake_true, ring_check, ref_check]
  by_cases h : ((a.Read.length : Nat) : Int) ≤ 100
  · rw [decide_eq_true h]
    obtain ⟨L, h1, h2⟩ := gaps a (by omega)
    simp [h1, h2]
  · rw [decide_eq_false h]
    rfl
end Saw
end Go.SL
