/- Poly's plain mathematics, part 5: the hull, as both compute it. -/
import Derived.Test.YtcppgjcniljkcaaDoorPMath4
set_option linter.unusedVariables false
set_option linter.unusedSimpArgs false
namespace Go.SL
namespace Saw

theorem before_eq (p q : Point) : ref09_Before p q = some (decide (pLt p q)) := by
  unfold ref09_Before ref09_Before_k1 pLt
  by_cases h1 : p.X < q.X
  · simp [h1]
  · by_cases h2 : p.X = q.X
    · simp [h1, h2]
    · have : (p.X == q.X) = false := by simpa using h2
      simp [h1, h2, this]
theorem find_loop (a l : List Point) (x : Nat) (hl : l.length ≤ 1000000) (hx : x < a.length) : ∀ (n k : Nat), l.length < k + n → k ≤ l.length → (∀ j, j < k → pLt (l.getD j default) (a.getD x default)) →
    ∃ k', ref09_sorted_L2 a l (x : Int) n (k : Int) = some ((k' : Nat) : Int) ∧ k' ≤ l.length ∧ (∀ j, j < k' → pLt (l.getD j default) (a.getD x default)) ∧ (k' < l.length → ¬ pLt (l.getD k' default) (a.getD x default))
  | 0, k, h1, h2, _ => by omega
  | n + 1, k, h1, h2, h3 => by
    unfold ref09_sorted_L2
    by_cases hk : k < l.length
    · rw [lt_t (by omega), inb_t (by omega) (by omega), inb_t (by omega) (by omega)]
      simp only [cond_true, Int.toNat_natCast, before_eq, Option.bind_some, ref09_sorted_k3, inc_eq (show k < 4611686018427387904 by omega)]
      by_cases hp : pLt (l.getD k default) (a.getD x default)
      · rw [decide_eq_true hp]
        exact find_loop a l x hl hx n (k + 1) (by omega) (by omega) (fun j hj => by
          by_cases hjk : j = k
          · subst hjk; exact hp
          · exact h3 j (by omega))
      · rw [decide_eq_false hp]
        exact ⟨k, rfl, h2, h3, fun _ => hp⟩
    · rw [lt_f (by omega)]
      exact ⟨k, rfl, h2, h3, fun h => absurd h hk⟩
theorem getD_el' {α : Type} [Inhabited α] {l : List α} {i : Nat} (h : i < l.length) : l.getD i default = l[i] := by rw [List.getD_eq_getElem?_getD, List.getElem?_eq_getElem h]; rfl
theorem sorted_loop (a : List Point) (hl : a.length ≤ 1000000) : ∀ (n x : Nat) (l : List Point), a.length < x + n → x ≤ a.length → l.length ≤ x → StrictS l → (∀ p, p ∈ l ↔ p ∈ a.take x) → ∃ s, ref09_sorted_L1 a n l (x : Int) = some s ∧ StrictS s ∧ (∀ p, p ∈ s ↔ p ∈ a) ∧ s.length ≤ a.length
  | 0, x, l, h1, h2, _, _, _ => by omega
  | n + 1, x, l, h1, h2, h3, h4, h5 => by
    unfold ref09_sorted_L1
    by_cases hx : x < a.length
    · obtain ⟨k, e1, e2, e3, e4⟩ := find_loop a l x (by omega) hx FUEL 0 (by rw [FUEL_eq]; omega) (by omega) (fun j hj => by omega)
      have ht : a.take (x + 1) = a.take x ++ [a.getD x default] := by rw [List.take_add_one, List.getElem?_eq_getElem hx, getD_el' hx]; rfl
      rw [show ((0 : Nat) : Int) = 0 from rfl] at e1
      rw [lt_t (by omega), e1]
      simp only [cond_true, Option.bind_some, ref09_sorted_k4, ref09_sorted_k5, Int.toNat_natCast, inc_eq (show x < 4611686018427387904 by omega)]
      have s1 : slOk 0 ((k : Nat) : Int) l.length = true := by unfold slOk; exact decide_eq_true ⟨by omega, by omega, by omega⟩
      have s2 : slOk ((k : Nat) : Int) ((l.length : Nat) : Int) l.length = true := by unfold slOk; exact decide_eq_true ⟨by omega, by omega, by omega⟩
      rw [s1, s2, room_t (n := 0 + k) (by omega), room_t (n := 0 + k + 1) (by omega), room_t (n := 0 + k + 1 + (l.length - k)) (by omega), inb_t (i := (x : Int)) (by omega) (by omega)]
      simp only [cond_true, List.nil_append]
      have hins : ¬ (k < l.length ∧ peq (l.getD k default) (a.getD x default) = true) → ∃ s, ref09_sorted_L1 a n (l.take k ++ [a.getD x default] ++ (l.drop k).take (l.length - k)) ((x + 1 : Nat) : Int) = some s ∧ StrictS s ∧ (∀ p, p ∈ s ↔ p ∈ a) ∧ s.length ≤ a.length := by
        intro hne
        have hdr : (l.drop k).take (l.length - k) = l.drop k := List.take_of_length_le (by simp)
        rw [hdr]
        have hall : ∀ p ∈ l.drop k, pLt (a.getD x default) p := by
          intro p hp
          obtain ⟨j, hj, rfl⟩ := List.mem_iff_getElem.1 hp
          rw [List.length_drop] at hj
          rw [List.getElem_drop]
          have hk : k < l.length := by omega
          have hc : pLt (a.getD x default) (l.getD k default) := by
            rcases pLt_tri (l.getD k default) (a.getD x default) with h | h | h
            · exact absurd h (e4 hk)
            · exact absurd ⟨hk, peq_iff.2 h⟩ hne
            · exact h
          rw [getD_el' hk] at hc
          by_cases hj0 : j = 0
          · subst hj0; exact hc
          · have h4' := List.pairwise_iff_getElem.1 h4
            exact pLt_trans hc (h4' k (k + j) hk (by omega) (by omega))
        have htk : ∀ p ∈ l.take k, pLt p (a.getD x default) := by
          intro p hp
          obtain ⟨j, hj, rfl⟩ := List.mem_take_iff_getElem.1 hp
          have := e3 j (by omega)
          rwa [getD_el' (by omega)] at this
        refine sorted_loop a hl n (x + 1) _ (by omega) (by omega) (by simp; omega) ?_ (fun p => ?_)
        · refine List.pairwise_append.2 ⟨List.pairwise_append.2 ⟨h4.take, List.pairwise_singleton _ _, fun p hp q hq => ?_⟩, h4.drop, fun p hp q hq => ?_⟩
          · rw [List.mem_singleton] at hq; subst hq; exact htk p hp
          · rcases List.mem_append.1 hp with hp | hp
            · exact pLt_trans (htk p hp) (hall q hq)
            · rw [List.mem_singleton] at hp; subst hp; exact hall q hq
        · rw [ht, List.mem_append, List.mem_append, List.mem_append, ← h5 p]
          have : p ∈ l ↔ p ∈ l.take k ∨ p ∈ l.drop k := by rw [← List.mem_append, List.take_append_drop]
          rw [this]
          constructor
          · rintro ((h | h) | h)
            · exact .inl (.inl h)
            · exact .inr h
            · exact .inl (.inr h)
          · rintro ((h | h) | h)
            · exact .inl (.inl h)
            · exact .inr h
            · exact .inl (.inr h)
      by_cases hk : k < l.length
      · rw [lt_t (by omega), inb_t (by omega) (by omega)]
        simp only [cond_true]
        cases hp : peq (l.getD k default) (a.getD x default) with
        | true =>
          have hp' := hp
          unfold peq at hp'
          rw [hp']
          simp only [cond_true]
          refine sorted_loop a hl n (x + 1) l (by omega) (by omega) (by omega) h4 (fun p => ?_)
          rw [ht, List.mem_append, ← h5 p, List.mem_singleton]
          refine ⟨.inl, fun h => h.elim id fun e => ?_⟩
          rw [e, ← peq_iff.1 hp]
          exact getD_mem' hk
        | false =>
          have hp' := hp
          unfold peq at hp'
          rw [hp']
          simp only [cond_false]
          exact hins (fun h => by rw [hp] at h; cases h.2)
      · rw [lt_f (by omega)]
        simp only [cond_false]
        exact hins (fun h => hk h.1)
    · rw [lt_f (by omega)]
      rw [List.take_of_length_le (by omega)] at h5
      exact ⟨l, rfl, h4, h5, by omega⟩

/-- The points, each once, in order. -/
def srt (a : List Point) : List Point := ddT (sortB pLe a) (sortB pLe a).length
theorem pLe_trans (x y z : Point) (h1 : pLe x y = true) (h2 : pLe y z = true) : pLe x z = true := by
  rw [pLe_iff] at *
  rcases h1 with h1 | rfl
  · rcases h2 with h2 | rfl
    · exact .inl (pLt_trans h1 h2)
    · exact .inl h1
  · exact h2
theorem pLe_total (x y : Point) : pLe x y = true ∨ pLe y x = true := by
  rw [pLe_iff, pLe_iff]
  rcases pLt_tri x y with h | h | h
  · exact .inl (.inl h)
  · exact .inl (.inr h)
  · exact .inr (.inl h)
theorem srt_strict (a : List Point) : StrictS (srt a) := ddT_strict _ (sortB_sorted pLe_trans pLe_total a) _ (Nat.le_refl _)
theorem srt_mem (a : List Point) (p : Point) : p ∈ srt a ↔ p ∈ a := by
  unfold srt
  rw [ddT_mem _ _ (Nat.le_refl _), List.take_length]
  exact (sortB_perm pLe a).mem_iff
theorem srt_len (a : List Point) : (srt a).length ≤ a.length := by
  have := ddT_len (sortB pLe a) (sortB pLe a).length
  have h2 := (sortB_perm pLe a).length_eq
  unfold srt; omega
theorem refSorted_eq (a : List Point) (hl : a.length ≤ 1000000) : ref09_sorted a = some (srt a) := by
  unfold ref09_sorted
  obtain ⟨s, e1, e2, e3, _⟩ := sorted_loop a hl FUEL 0 [] (by rw [FUEL_eq]; omega) (by omega) (by simp) List.Pairwise.nil (fun p => by simp)
  rw [show ((0 : Nat) : Int) = 0 from rfl] at e1
  rw [e1, Option.bind_some]
  congr 1
  exact strict_unique e2 (srt_strict a) (fun p => by rw [e3, srt_mem])
end Saw
end Go.SL
