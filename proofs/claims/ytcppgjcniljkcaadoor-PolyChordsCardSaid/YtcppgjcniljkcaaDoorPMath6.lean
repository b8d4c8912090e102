/- Poly's plain mathematics, part 6: the chains and the hull. -/
import Derived.Test.YtcppgjcniljkcaaDoorPMath5
import Derived.Test.YtcppgjcniljkcaaDoorPMath2
set_option linter.unusedVariables false
set_option linter.unusedSimpArgs false
namespace Go.SL
namespace Saw

/-- The stack (its top first) without the points that do not turn to the left before c. -/
def popR : List Point → Point → List Point
  | t :: s :: r, c => if cross s t c ≤ 0 then popR (s :: r) c else t :: s :: r
  | l, _ => l
theorem popR_len (c : Point) : ∀ st, (popR st c).length ≤ st.length
  | [] => Nat.le_refl _
  | [_] => Nat.le_refl _
  | t :: s :: r => by
    unfold popR
    split
    · have := popR_len c (s :: r); simp at this ⊢; omega
    · exact Nat.le_refl _
theorem popR_sub (c : Point) : ∀ st p, p ∈ popR st c → p ∈ st
  | [], _, h => h
  | [_], _, h => h
  | t :: s :: r, p, h => by
    unfold popR at h
    split at h
    · exact List.mem_cons_of_mem _ (popR_sub c (s :: r) p h)
    · exact h
def pushR (st : List Point) (c : Point) : List Point := c :: popR st c
def chainR (a : List Point) : List Point := a.foldl pushR []

theorem two_top (t s : Point) (r : List Point) : ((t :: s :: r).reverse).getD r.length default = s ∧ ((t :: s :: r).reverse).getD (r.length + 1) default = t ∧ ((t :: s :: r).reverse).take (r.length + 1) = (s :: r).reverse := by
  simp only [List.reverse_cons, List.append_assoc, List.cons_append, List.nil_append]
  refine ⟨?_, ?_, ?_⟩
  · rw [List.getD_eq_getElem?_getD, List.getElem?_append_right (by simp)]; simp
  · rw [List.getD_eq_getElem?_getD, List.getElem?_append_right (by simp)]; simp
  · rw [List.take_append, List.take_of_length_le (by simp)]; simp

theorem chain_L2 (a : List Point) (x : Nat) (hx : x < a.length) (hc : rng (a.getD x default)) : ∀ (n : Nat) (st : List Point), st.length < n → st.length ≤ 1000000 → (∀ p ∈ st, rng p) →
    poly_chain_L2 a (x : Int) n st.reverse = some (popR st (a.getD x default)).reverse ∧ ref09_chain_L2 a (x : Int) n st.reverse = some (popR st (a.getD x default)).reverse
  | 0, st, h, _, _ => by omega
  | n + 1, [], _, _, _ => ⟨rfl, rfl⟩
  | n + 1, [t], _, _, _ => ⟨rfl, rfl⟩
  | n + 1, t :: s :: r, h, hl, hr => by
    have hs : rng s := hr s (by simp)
    have ht : rng t := hr t (by simp)
    obtain ⟨g1, g2, g3⟩ := two_top t s r
    have hlen : ((t :: s :: r).reverse).length = r.length + 2 := by simp
    simp only [List.length_cons] at h hl
    have e1 : w64 (((r.length + 2 : Nat) : Int) - 2) = ((r.length : Nat) : Int) := by rw [w64_id (by omega) (by omega)]; omega
    have e2 : w64 (((r.length + 2 : Nat) : Int) - 1) = ((r.length + 1 : Nat) : Int) := by rw [w64_id (by omega) (by omega)]; omega
    have hsl : slOk 0 ((r.length + 1 : Nat) : Int) (r.length + 2) = true := by unfold slOk; exact decide_eq_true ⟨by omega, by omega, by omega⟩
    obtain ⟨ih1, ih2⟩ := chain_L2 a x hx hc n (s :: r) (by simp; omega) (by simp; omega) (fun p hp => hr p (List.mem_cons_of_mem _ hp))
    unfold poly_chain_L2 ref09_chain_L2 poly_chain_k3 ref09_chain_k3 popR
    rw [hlen, e1, e2, decide_eq_true (show ((r.length + 2 : Nat) : Int) ≥ 2 by omega), decide_eq_true (show ((r.length + 2 : Nat) : Int) > 1 by omega), inb_t (i := ((r.length : Nat) : Int)) (by omega) (by omega), inb_t (i := ((r.length + 1 : Nat) : Int)) (by omega) (by omega), inb_t (i := (x : Int)) (by omega) (by omega), hsl]
    simp only [cond_true, Int.toNat_natCast, g1, g2, g3, (cross_eq hs ht hc).1, (cross_eq hs ht hc).2, Option.bind_some, ih1, ih2]
    by_cases hcr : cross s t (a.getD x default) ≤ 0
    · rw [decide_eq_true hcr, if_pos hcr]; exact ⟨rfl, rfl⟩
    · rw [decide_eq_false hcr, if_neg hcr]; exact ⟨rfl, rfl⟩

theorem chain_L1 (a : List Point) (hr : ∀ p ∈ a, rng p) (hl : a.length ≤ 1000000) : ∀ (n x : Nat) (st : List Point), a.length < x + n → x ≤ a.length → st.length ≤ x → (∀ p ∈ st, rng p) →
    poly_chain_L1 a n st.reverse (x : Int) = some ((a.drop x).foldl pushR st).reverse ∧ ref09_chain_L1 a n st.reverse (x : Int) = some ((a.drop x).foldl pushR st).reverse
  | 0, x, st, h1, h2, _, _ => by omega
  | n + 1, x, st, h1, h2, h3, h4 => by
    unfold poly_chain_L1 ref09_chain_L1
    by_cases hx : x < a.length
    · have hc : rng (a.getD x default) := hr _ (getD_mem' hx)
      obtain ⟨p1, p2⟩ := chain_L2 a x hx hc FUEL st (by rw [FUEL_eq]; omega) (by omega) h4
      have hp := popR_len (a.getD x default) st
      obtain ⟨ih1, ih2⟩ := chain_L1 a hr hl n (x + 1) (pushR st (a.getD x default)) (by omega) (by omega) (by unfold pushR; rw [List.length_cons]; omega) (fun p hp' => by
        unfold pushR at hp'
        rcases List.mem_cons.1 hp' with rfl | hp'
        · exact hc
        · exact h4 p (popR_sub _ _ _ hp'))
      rw [lt_t (by omega), inb_t (by omega) (by omega), p1, p2, drop_getD a x hx]
      simp only [cond_true, Option.bind_some, List.length_reverse, room_t (n := (popR st (a.getD x default)).length + 1) (b := 16) (by omega), Int.toNat_natCast, inc_eq (show x < 4611686018427387904 by omega), List.foldl_cons]
      unfold pushR at ih1 ih2 ⊢
      rw [List.reverse_cons] at ih1 ih2
      exact ⟨ih1, ih2⟩
    · rw [lt_f (by omega), List.drop_of_length_le (by omega)]
      exact ⟨rfl, rfl⟩
theorem foldl_push_len : ∀ (a st : List Point), (a.foldl pushR st).length ≤ a.length + st.length
  | [], st => by simp
  | c :: a, st => by
    have h1 := foldl_push_len a (pushR st c)
    have h2 := popR_len c st
    unfold pushR at h1
    simp only [List.foldl_cons, List.length_cons] at h1 ⊢
    unfold pushR
    omega
theorem chainR_len (a : List Point) : (chainR a).length ≤ a.length := by have := foldl_push_len a []; simpa [chainR] using this
theorem foldl_push_ne : ∀ (a st : List Point), st ≠ [] ∨ a ≠ [] → a.foldl pushR st ≠ []
  | [], st, h => by simpa using h
  | c :: a, st, _ => foldl_push_ne a (pushR st c) (.inl (by unfold pushR; simp))
theorem chainR_pos {a : List Point} (h : a ≠ []) : 0 < (chainR a).length := List.length_pos_iff.2 (foldl_push_ne a [] (.inr h))
theorem chain_eq (a : List Point) (hr : ∀ p ∈ a, rng p) (hl : a.length ≤ 1000000) : (a ≠ [] → poly_chain a = some (chainR a).tail.reverse) ∧ ref09_chain a = some (chainR a).reverse := by
  obtain ⟨h1, h2⟩ := chain_L1 a hr hl FUEL 0 [] (by rw [FUEL_eq]; omega) (by omega) (by simp) (fun p hp => by cases hp)
  rw [show ((0 : Nat) : Int) = 0 from rfl, List.drop_zero, List.reverse_nil] at h1 h2
  unfold poly_chain ref09_chain
  rw [h1, h2]
  refine ⟨fun hne => ?_, rfl⟩
  have hp := chainR_pos hne
  have hle := chainR_len a
  change 0 < (a.foldl pushR []).length at hp
  change (a.foldl pushR []).length ≤ a.length at hle
  have e2 : w64 ((((a.foldl pushR []).reverse.length : Nat) : Int) - 1) = (((a.foldl pushR []).length - 1 : Nat) : Int) := by rw [List.length_reverse, w64_id (by omega) (by omega)]; omega
  have hsl : slOk 0 (((a.foldl pushR []).length - 1 : Nat) : Int) (a.foldl pushR []).reverse.length = true := by unfold slOk; rw [List.length_reverse]; exact decide_eq_true ⟨by omega, by omega, by omega⟩
  simp only [Option.bind_some, e2, hsl, cond_true, Int.toNat_natCast]
  unfold chainR
  generalize a.foldl pushR [] = st at hp
  cases st with
  | nil => simp at hp
  | cons t r => simp

theorem rev_loop (l : List Point) (hl : l.length ≤ 1000000) : ∀ (n i j : Nat) (t : List Point), l.length < 2 * i + 2 * n → i ≤ j + 1 → i + j + 1 = l.length → t.length = l.length → (∀ k, k < l.length → (k < i ∨ j < k) → t.getD k default = l.getD (l.length - 1 - k) default) → (∀ k, i ≤ k → k ≤ j → t.getD k default = l.getD k default) →
    slices_Reverse_SPoint_L1 n t (i : Int) (j : Int) = some l.reverse
  | 0, i, j, t, h1, h2, h3, _, _, _ => by omega
  | n + 1, i, j, t, h1, h2, h3, h4, h5, h6 => by
    unfold slices_Reverse_SPoint_L1
    by_cases hij : i < j
    · have e1 : w64 ((j : Int) - 1) = ((j - 1 : Nat) : Int) := by rw [w64_id (by omega) (by omega)]; omega
      rw [lt_t (by omega), inb_t (i := (j : Int)) (by omega) (by omega), inb_t (i := (i : Int)) (by omega) (by omega), e1]
      simp only [cond_true, Int.toNat_natCast, inc_eq (show i < 4611686018427387904 by omega)]
      refine rev_loop l hl n (i + 1) (j - 1) _ (by omega) (by omega) (by omega) (by simp [h4]) (fun k hk hkk => ?_) (fun k hk1 hk2 => ?_)
      · by_cases hkj : k = j
        · subst hkj
          rw [getD_set_eq _ (by simp; omega), h6 i (by omega) (by omega)]
          congr 1; omega
        · rw [getD_set_ne _ (fun e => hkj e.symm)]
          by_cases hki : k = i
          · subst hki
            rw [getD_set_eq _ (by omega), h6 j (by omega) (by omega)]
            congr 1; omega
          · rw [getD_set_ne _ (fun e => hki e.symm)]
            exact h5 k hk (by omega)
      · rw [getD_set_ne _ (by omega), getD_set_ne _ (by omega)]
        exact h6 k (by omega) (by omega)
    · rw [lt_f (by omega)]
      have : t = l.reverse := by
        refine ext_getD (by simp [h4]) (fun k hk => ?_)
        rw [List.getD_eq_getElem?_getD (l := l.reverse), List.getElem?_reverse (by omega), ← List.getD_eq_getElem?_getD]
        by_cases hkk : k < i ∨ j < k
        · exact h5 k (by omega) hkk
        · rw [h6 k (by omega) (by omega)]; congr 1; omega
      rw [this]; rfl
theorem rev_eq (l : List Point) (hne : l ≠ []) (hl : l.length ≤ 1000000) : slices_Reverse_SPoint l = some l.reverse := by
  have hp : 0 < l.length := List.length_pos_iff.2 hne
  unfold slices_Reverse_SPoint
  have h := rev_loop l hl FUEL 0 (l.length - 1) l (by rw [FUEL_eq]; omega) (by omega) (by omega) rfl (fun k hk h => by omega) (fun _ _ _ => rfl)
  rw [show ((0 : Nat) : Int) = 0 from rfl] at h
  rw [show w64 (((l.length : Nat) : Int) - 1) = ((l.length - 1 : Nat) : Int) by rw [w64_id (by omega) (by omega)]; omega, h]
  rfl
theorem refRev_loop (l : List Point) (h : l.length ≤ 1000000) : ∀ (n x : Nat) (t : List Point), x < n → x ≤ l.length → t = (l.drop x).reverse → ref09_Hull_L2 l n t ((x : Int) - 1) = some l.reverse
  | 0, x, t, h1, h2, _ => by omega
  | n + 1, 0, t, h1, h2, h3 => by
    unfold ref09_Hull_L2
    rw [decide_eq_false (by omega), h3]
    rfl
  | n + 1, x + 1, t, h1, h2, h3 => by
    unfold ref09_Hull_L2
    have hx : x < l.length := by omega
    have ht : t.length ≤ 1000000 := by rw [h3]; simp; omega
    have e0 : (((x + 1 : Nat) : Int) - 1) = (x : Int) := by omega
    have e4 : w64 ((x : Int) - 1) = (x : Int) - 1 := w64_id (by omega) (by omega)
    rw [e0, decide_eq_true (by omega), inb_t (by omega) (by omega), room_t (by omega)]
    simp only [cond_true, Int.toNat_natCast, e4]
    refine refRev_loop l h n x _ (by omega) (by omega) ?_
    rw [drop_getD l x hx, List.reverse_cons, h3]

def hullOf (s : List Point) : List Point := if (chainR s).length + (chainR s.reverse).length < 5 then [] else (chainR s).tail.reverse ++ (chainR s.reverse).tail.reverse
def hull (a : List Point) : List Point := bif decide (((a.length : Nat) : Int) > 32) then [] else bif a.all inRange then hullOf (srt a) else []
theorem hullOf_short {s : List Point} (h : s.length < 3) : hullOf s = [] := by
  have h1 := chainR_len s
  have h2 := chainR_len s.reverse
  rw [List.length_reverse] at h2
  unfold hullOf
  rw [if_pos (by omega)]
theorem refHull_eq (a : List Point) : ref09_Hull a = some (hull a) := by
  unfold ref09_Hull hull ref09_Hull_k1
  by_cases h : ((a.length : Nat) : Int) > 32
  · simp [h]
  rw [decide_eq_false h, ref_range a (by omega)]
  simp only [cond_false, Option.bind_some]
  cases hr : a.all inRange with
  | false => rfl
  | true =>
    have hrng : ∀ p ∈ srt a, rng p := fun p hp => inRange_iff.1 (List.all_eq_true.1 hr p ((srt_mem a p).1 hp))
    have hsl := srt_len a
    have c1 := (chain_eq (srt a) hrng (by omega)).2
    have c2 := (chain_eq (srt a).reverse (fun p hp => hrng p (by simpa using hp)) (by simp; omega)).2
    have hrv : ref09_Hull_L2 (srt a) FUEL [] (w64 ((((srt a).length : Nat) : Int) - 1)) = some (srt a).reverse := by
      rw [w64_id (by omega) (by omega)]
      exact refRev_loop (srt a) (by omega) FUEL (srt a).length [] (by rw [FUEL_eq]; omega) (Nat.le_refl _) (by simp)
    rw [refSorted_eq a (by omega)]
    simp only [Bool.not_true, cond_false, cond_true, Option.bind_some, hrv, c1, c2]
    have l1 := chainR_len (srt a)
    have l2 := chainR_len (srt a).reverse
    rw [List.length_reverse] at l2
    simp only [List.length_reverse]
    rw [w64_id (n := ((chainR (srt a)).length : Int) + ((chainR (srt a).reverse).length : Int)) (by omega) (by omega)]
    unfold hullOf
    by_cases h5 : (chainR (srt a)).length + (chainR (srt a).reverse).length < 5
    · rw [if_pos h5, lt_t (by omega)]; rfl
    · rw [if_neg h5, lt_f (by omega)]
      have hne : srt a ≠ [] := fun e => by rw [e] at h5; simp [chainR] at h5
      have p1 := chainR_pos hne
      have p2 := chainR_pos (a := (srt a).reverse) (by simpa using hne)
      have e1 : w64 (((chainR (srt a)).length : Int) - 1) = (((chainR (srt a)).length - 1 : Nat) : Int) := by rw [w64_id (by omega) (by omega)]; omega
      have e2 : w64 (((chainR (srt a).reverse).length : Int) - 1) = (((chainR (srt a).reverse).length - 1 : Nat) : Int) := by rw [w64_id (by omega) (by omega)]; omega
      have s1 : slOk 0 (((chainR (srt a)).length - 1 : Nat) : Int) (chainR (srt a)).length = true := by unfold slOk; exact decide_eq_true ⟨by omega, by omega, by omega⟩
      have s2 : slOk 0 (((chainR (srt a).reverse).length - 1 : Nat) : Int) (chainR (srt a).reverse).length = true := by unfold slOk; exact decide_eq_true ⟨by omega, by omega, by omega⟩
      rw [e1, e2, s1, s2, room_t (by simp; omega), room_t (by simp; omega)]
      simp only [cond_false, cond_true, Int.toNat_natCast, List.nil_append]
      congr 1
      have tk : ∀ st : List Point, 0 < st.length → st.reverse.take (st.length - 1) = st.tail.reverse := fun st hst => by
        cases st with
        | nil => simp at hst
        | cons t r => simp
      rw [tk _ p1, tk _ p2]
theorem polyHull_eq (a : List Point) : poly_Hull a = some (hull a) := by
  unfold poly_Hull hull poly_Hull_k1
  by_cases h3 : ((a.length : Nat) : Int) < 3
  · have hs : hullOf (srt a) = [] := hullOf_short (by have := srt_len a; omega)
    rw [decide_eq_true h3, decide_eq_false (show ¬ ((a.length : Nat) : Int) > 32 by omega), hs]
    cases a.all inRange <;> rfl
  by_cases h : ((a.length : Nat) : Int) > 32
  · simp [h, h3]
  rw [decide_eq_false h, decide_eq_false h3, poly_range a (by omega)]
  simp only [cond_false, Option.bind_some]
  cases hr : a.all inRange with
  | false => rfl
  | true =>
    have hrng : ∀ p ∈ srt a, rng p := fun p hp => inRange_iff.1 (List.all_eq_true.1 hr p ((srt_mem a p).1 hp))
    have hsl := srt_len a
    have hpl := (sortB_perm pLe a).length_eq
    have hane : a ≠ [] := fun e => by rw [e] at h3; simp at h3
    have hne : srt a ≠ [] := fun e => by
      obtain ⟨p, hp⟩ := List.exists_mem_of_ne_nil a hane
      have := (srt_mem a p).2 hp
      rw [e] at this; cases this
    have c1 := (chain_eq (srt a) hrng (by omega)).1 hne
    have c2 := (chain_eq (srt a).reverse (fun p hp => hrng p (by simpa using hp)) (by simp; omega)).1 (by simpa using hne)
    have hso : sortOk a.length = true := by unfold sortOk; rw [Bool.and_eq_true, Nat.blt_eq, Nat.blt_eq]; omega
    have hcl : slices_Clone_SPoint a = some a := by unfold slices_Clone_SPoint; rw [room_t (by omega)]; rfl
    have hst : slices_SortFunc_SPoint a = some (sortB pLe a) := by unfold slices_SortFunc_SPoint; rw [hso, sort_eq]; rfl
    have hco : slices_Compact_SPoint (sortB pLe a) = some (srt a, srt a) := compact_eq (sortB pLe a) (by omega)
    have l1 := chainR_len (srt a)
    have l2 := chainR_len (srt a).reverse
    rw [List.length_reverse] at l2
    have p1 := chainR_pos hne
    have p2 := chainR_pos (a := (srt a).reverse) (by simpa using hne)
    simp only [Bool.not_true, cond_false, cond_true, hcl, hst, hco, Option.bind_some, hpl, beq_self_eq_true, c1, rev_eq _ hne (show (srt a).length ≤ 1000000 by omega), c2, List.length_reverse, List.length_tail]
    rw [room_t (by omega)]
    unfold hullOf
    by_cases h5 : (chainR (srt a)).length + (chainR (srt a).reverse).length < 5
    · rw [if_pos h5, lt_t (by omega)]; rfl
    · rw [if_neg h5, lt_f (by omega)]; rfl
theorem hullOf_len (s : List Point) : (hullOf s).length ≤ s.length + s.length := by
  have h1 := chainR_len s
  have h2 := chainR_len s.reverse
  rw [List.length_reverse] at h2
  unfold hullOf
  split
  · simp
  · simp; omega
theorem hull_len (a : List Point) : (hull a).length ≤ a.length + a.length := by
  have h1 := hullOf_len (srt a)
  have h2 := srt_len a
  unfold hull
  cases decide (((a.length : Nat) : Int) > 32) with
  | true => simp
  | false => cases a.all inRange with
    | true => simp only [cond_false, cond_true]; omega
    | false => simp
theorem PolyHulls_true (a : List Point) : law09_PolyHulls a = some true := by
  unfold law09_PolyHulls law09_few
  simp only [Option.bind_some]
  by_cases h : ((a.length : Nat) : Int) ≤ 100
  · have hl := hull_len a
    rw [decide_eq_true h]
    simp only [Bool.not_true, cond_false, polyHull_eq, refHull_eq, Option.bind_some, same_self _ (show (hull a).length ≤ 1000000 by omega), cond_true, awake_true, law09_PolyHulls_k1]
  · rw [decide_eq_false h]
    simp only [Bool.not_false, cond_true, awake_true, Option.bind_some]
end Saw
end Go.SL
