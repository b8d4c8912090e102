/- Poly's plain mathematics, part 16: the loop of the chord. -/
import Derived.Test.YtjelipmghgcpeaaSMa5
set_option linter.unusedVariables false
set_option linter.unusedSimpArgs false
namespace Go.SL
namespace Saw

theorem chord_loop (H : List Point) (y : Int) (hr : ∀ p ∈ H, rng p) (hy : -600 ≤ y ∧ y ≤ 600) (hl : H.length ≤ 1000000) : ∀ (m n x : Nat) (r : Int × Int), x + m = H.length → m < n → poly_Chord_1_L1 y H n r.1 r.2 (x : Int) = some (pS H y x m r)
  | _, 0, x, _, _, hn => by omega
  | 0, n + 1, x, r, hx, _ => by
    unfold poly_Chord_1_L1 pS
    rw [lt_f (by omega)]
    rfl
  | m + 1, n + 1, x, r, hx, hn => by
    have hlen : 0 < H.length := by omega
    have hyy : (x + 1) % H.length < H.length := Nat.mod_lt _ hlen
    have hnx := nxt_eq hlen (show x < 4611686018427387904 by omega)
    obtain ⟨p, hpx⟩ : ∃ p, H.getD x default = p := ⟨_, rfl⟩
    obtain ⟨q, hqx⟩ : ∃ q, H.getD ((x + 1) % H.length) default = q := ⟨_, rfl⟩
    have hpx' : H.getD (x : Int).toNat default = p := by rw [Int.toNat_natCast]; exact hpx
    have hqx' : H.getD (Int.tmod (w64 ((x : Int) + 1)) ((H.length : Nat) : Int)).toNat default = q := by rw [hnx, Int.toNat_natCast]; exact hqx
    have hp : rng p := by rw [← hpx]; exact hr _ (getD_mem' (by omega))
    have hq : rng q := by rw [← hqx]; exact hr _ (getD_mem' hyy)
    have ih := fun r => chord_loop H y hr hy hl m n (x + 1) r (by omega) (by omega)
    have hi' : inb (Int.tmod (w64 ((x : Int) + 1)) ((H.length : Nat) : Int)) H.length = true := by rw [hnx]; exact inb_t (by omega) (by omega)
    have hinc : w64 ((x : Int) + 1) = ((x + 1 : Nat) : Int) := inc_eq (by omega)
    have nb := num_b hp hq hy
    have nb2 := num_b hq hp hy
    have hp' := hp
    have hq' := hq
    obtain ⟨⟨p1, p2⟩, p3, p4⟩ := hp'
    obtain ⟨⟨q1, q2⟩, q3, q4⟩ := hq'
    have nb3 : -1440000 ≤ (q.X - p.X) * (y - q.Y) ∧ (q.X - p.X) * (y - q.Y) ≤ 1440000 := by
      have e : (q.X - p.X) * (y - q.Y) = -((p.X - q.X) * (y - q.Y)) := by clear nb nb2; grind
      omega
    unfold poly_Chord_1_L1 pS
    rw [lt_t (by omega), inb_t (i := (x : Int)) (by omega) (by omega), nz_t (by omega), hi']
    unfold poly_Chord_1_k2 poly_Chord_1_k3 poly_Chord_1_k4
    rw [hpx', hqx', hpx, hqx]
    simp only [cond_true]
    rw [w64_id (n := q.Y - p.Y) (by omega) (by omega), w64_id (n := p.Y - q.Y) (by omega) (by omega), w64_id (n := q.X - p.X) (by omega) (by omega), w64_id (n := y - p.Y) (by omega) (by omega), w64_id (n := y - q.Y) (by omega) (by omega), w64_id (n := (q.X - p.X) * (y - p.Y)) (by omega) (by omega), w64_id (n := (q.X - p.X) * (y - q.Y)) (by omega) (by omega), hinc]
    unfold pstep
    by_cases h1 : p.Y < q.Y
    · have h1' : ¬ p.Y > q.Y := by omega
      have h1'' : ¬ q.Y < p.Y := by omega
      have eb := ediv_b (show 0 < q.Y - p.Y by omega) nb.1 nb.2
      rw [floor_eq _ (q.Y - p.Y) (by omega) (by omega) (by omega)]
      by_cases h2 : p.Y ≤ y
      · by_cases h3 : y ≤ q.Y
        · rw [if_pos ⟨h1, h2, h3⟩]
          simp only [h1, h2, h3, decide_true, cond_true, Option.bind_some]
          rw [w64_id (n := p.X + _) (by omega) (by omega)]
          exact ih (r.1, upB p q y)
        · rw [if_neg (by omega), if_neg (by omega)]
          simp only [h1, h2, h3, h1', h1'', decide_true, decide_false, cond_true, cond_false]
          exact ih r
      · rw [if_neg (by omega), if_neg (by omega)]
        simp only [h1, h2, h1', h1'', decide_true, decide_false, cond_true, cond_false]
        exact ih r
    · by_cases h2 : q.Y < p.Y
      · have h2' : p.Y > q.Y := h2
        have eb := ediv_b (show 0 < p.Y - q.Y by omega) nb3.1 nb3.2
        rw [floor_eq _ (p.Y - q.Y) (by omega) (by omega) (by omega)]
        by_cases h3 : q.Y ≤ y
        · by_cases h4 : y ≤ p.Y
          · rw [if_neg (by omega), if_pos ⟨h2, h3, h4⟩, ← dnB_eq h2 y]
            simp only [h1, h2', h3, h4, decide_true, decide_false, cond_true, cond_false, Option.bind_some]
            rw [w64_id (n := q.X - _) (by omega) (by omega)]
            exact ih (q.X - (q.X - p.X) * (y - q.Y) / (p.Y - q.Y), r.2)
          · rw [if_neg (by omega), if_neg (by omega)]
            simp only [h1, h2', h3, h4, decide_true, decide_false, cond_true, cond_false]
            exact ih r
        · rw [if_neg (by omega), if_neg (by omega)]
          simp only [h1, h2', h3, decide_true, decide_false, cond_true, cond_false]
          exact ih r
      · have h2' : ¬ p.Y > q.Y := h2
        rw [if_neg (by omega), if_neg (by omega)]
        simp only [h1, h2', decide_false, cond_false]
        exact ih r
end Saw
end Go.SL

namespace Go.SL
namespace Saw

abbrev spU (p q : Point) (y : Int) : Prop := p.Y < q.Y ∧ p.Y ≤ y ∧ y ≤ q.Y
abbrev spD (p q : Point) (y : Int) : Prop := q.Y < p.Y ∧ q.Y ≤ y ∧ y ≤ p.Y
theorem pS_up (H : List Point) (y : Int) : ∀ (m x : Nat) (r : Int × Int), ((pS H y x m r).2 = r.2 ∧ ∀ j, x ≤ j → j < x + m → ¬ spU (H.getD j default) (H.getD ((j + 1) % H.length) default) y) ∨ ∃ j, x ≤ j ∧ j < x + m ∧ spU (H.getD j default) (H.getD ((j + 1) % H.length) default) y ∧ (pS H y x m r).2 = upB (H.getD j default) (H.getD ((j + 1) % H.length) default) y
  | 0, x, r => .inl ⟨rfl, fun j h1 h2 => by omega⟩
  | m + 1, x, r => by
    unfold pS
    rcases pS_up H y m (x + 1) (pstep (H.getD x default) (H.getD ((x + 1) % H.length) default) y r) with ⟨h1, h2⟩ | ⟨j, h1, h2, h3, h4⟩
    · by_cases hs : spU (H.getD x default) (H.getD ((x + 1) % H.length) default) y
      · refine .inr ⟨x, Nat.le_refl _, by omega, hs, ?_⟩
        rw [h1]; unfold pstep; rw [if_pos hs]
      · refine .inl ⟨?_, fun j hj1 hj2 => ?_⟩
        · rw [h1]; unfold pstep; rw [if_neg hs]; split <;> rfl
        · by_cases hjx : j = x
          · subst hjx; exact hs
          · exact h2 j (by omega) (by omega)
    · exact .inr ⟨j, by omega, by omega, h3, h4⟩
theorem pS_dn (H : List Point) (y : Int) : ∀ (m x : Nat) (r : Int × Int), ((pS H y x m r).1 = r.1 ∧ ∀ j, x ≤ j → j < x + m → ¬ spD (H.getD j default) (H.getD ((j + 1) % H.length) default) y) ∨ ∃ j, x ≤ j ∧ j < x + m ∧ spD (H.getD j default) (H.getD ((j + 1) % H.length) default) y ∧ (pS H y x m r).1 = dnB (H.getD j default) (H.getD ((j + 1) % H.length) default) y
  | 0, x, r => .inl ⟨rfl, fun j h1 h2 => by omega⟩
  | m + 1, x, r => by
    unfold pS
    rcases pS_dn H y m (x + 1) (pstep (H.getD x default) (H.getD ((x + 1) % H.length) default) y r) with ⟨h1, h2⟩ | ⟨j, h1, h2, h3, h4⟩
    · by_cases hs : spD (H.getD x default) (H.getD ((x + 1) % H.length) default) y
      · refine .inr ⟨x, Nat.le_refl _, by omega, hs, ?_⟩
        rw [h1]; unfold pstep; rw [if_neg (by omega), if_pos hs]
      · refine .inl ⟨?_, fun j hj1 hj2 => ?_⟩
        · rw [h1]; unfold pstep; rw [if_neg hs]; split <;> rfl
        · by_cases hjx : j = x
          · subst hjx; exact hs
          · exact h2 j (by omega) (by omega)
    · exact .inr ⟨j, by omega, by omega, h3, h4⟩
end Saw
end Go.SL

namespace Go.SL
namespace Saw

abbrev Ep (H : List Point) (j : Nat) : Point := H.getD j default
abbrev Eq' (H : List Point) (j : Nat) : Point := H.getD ((j + 1) % H.length) default
/-- A horizontal edge that has height y on its right. -/
def bad (p q : Point) (y : Int) : Prop := ¬ p.Y < q.Y ∧ ¬ q.Y < p.Y ∧ (q.X - p.X) * (y - p.Y) < 0
theorem imin_le {a b X : Int} : X ≤ imin a b ↔ X ≤ a ∧ X ≤ b := by unfold imin; split <;> omega
theorem imax_le {a b X : Int} : imax a b ≤ X ↔ a ≤ X ∧ b ≤ X := by unfold imax; split <;> omega
theorem rS_spec (H : List Point) (y : Int) : ∀ (m x : Nat) (r : Int × Int),
    ((∃ j, x ≤ j ∧ j < x + m ∧ bad (Ep H j) (Eq' H j) y) ∧ rS H y x m r = .inl (1, 0)) ∨
    ((∀ j, x ≤ j → j < x + m → ¬ bad (Ep H j) (Eq' H j) y) ∧ ∃ r', rS H y x m r = .inr r' ∧ (∀ X, r'.1 ≤ X ↔ r.1 ≤ X ∧ ∀ j, x ≤ j → j < x + m → (Eq' H j).Y < (Ep H j).Y → dnB (Ep H j) (Eq' H j) y ≤ X) ∧ (∀ X, X ≤ r'.2 ↔ X ≤ r.2 ∧ ∀ j, x ≤ j → j < x + m → (Ep H j).Y < (Eq' H j).Y → X ≤ upB (Ep H j) (Eq' H j) y))
  | 0, x, r => .inr ⟨fun j h1 h2 => by omega, r, rfl, fun X => ⟨fun h => ⟨h, fun j h1 h2 => by omega⟩, fun h => h.1⟩, fun X => ⟨fun h => ⟨h, fun j h1 h2 => by omega⟩, fun h => h.1⟩⟩
  | m + 1, x, r => by
    have all : ∀ {P : Nat → Prop}, (∀ j, x ≤ j → j < x + (m + 1) → P j) ↔ P x ∧ ∀ j, x + 1 ≤ j → j < x + 1 + m → P j := fun {P} =>
      ⟨fun h => ⟨h x (Nat.le_refl _) (by omega), fun j h1 h2 => h j (by omega) (by omega)⟩, fun h j h1 h2 => by
        by_cases hj : j = x
        · subst hj; exact h.1
        · exact h.2 j (by omega) (by omega)⟩
    unfold rS
    by_cases h1 : (Ep H x).Y < (Eq' H x).Y
    · have e : rstep (Ep H x) (Eq' H x) y r = some (r.1, imin r.2 (upB (Ep H x) (Eq' H x) y)) := by unfold rstep; rw [if_pos h1]
      rw [e]
      rcases rS_spec H y m (x + 1) (r.1, imin r.2 (upB (Ep H x) (Eq' H x) y)) with ⟨⟨j, j1, j2, j3⟩, h⟩ | ⟨h, r', e', h2, h3⟩
      · exact .inl ⟨⟨j, by omega, by omega, j3⟩, h⟩
      · refine .inr ⟨all.2 ⟨fun hb => hb.1 h1, h⟩, r', e', fun X => ?_, fun X => ?_⟩
        · rw [h2 X, all]
          exact ⟨fun ⟨a, b⟩ => ⟨a, fun hh => by omega, b⟩, fun ⟨a, _, b⟩ => ⟨a, b⟩⟩
        · rw [h3 X, all, imin_le]
          exact ⟨fun ⟨⟨a, a'⟩, b⟩ => ⟨a, fun _ => a', b⟩, fun ⟨a, a', b⟩ => ⟨⟨a, a' h1⟩, b⟩⟩
    · by_cases h2 : (Eq' H x).Y < (Ep H x).Y
      · have e : rstep (Ep H x) (Eq' H x) y r = some (imax r.1 (dnB (Ep H x) (Eq' H x) y), r.2) := by unfold rstep; rw [if_neg h1, if_pos h2]
        rw [e]
        rcases rS_spec H y m (x + 1) (imax r.1 (dnB (Ep H x) (Eq' H x) y), r.2) with ⟨⟨j, j1, j2, j3⟩, h⟩ | ⟨h, r', e', h3, h4⟩
        · exact .inl ⟨⟨j, by omega, by omega, j3⟩, h⟩
        · refine .inr ⟨all.2 ⟨fun hb => hb.2.1 h2, h⟩, r', e', fun X => ?_, fun X => ?_⟩
          · rw [h3 X, all, imax_le]
            exact ⟨fun ⟨⟨a, a'⟩, b⟩ => ⟨a, fun _ => a', b⟩, fun ⟨a, a', b⟩ => ⟨⟨a, a' h2⟩, b⟩⟩
          · rw [h4 X, all]
            exact ⟨fun ⟨a, b⟩ => ⟨a, fun hh => absurd hh h1, b⟩, fun ⟨a, _, b⟩ => ⟨a, b⟩⟩
      · by_cases h3 : ((Eq' H x).X - (Ep H x).X) * (y - (Ep H x).Y) < 0
        · have e : rstep (Ep H x) (Eq' H x) y r = none := by unfold rstep; rw [if_neg h1, if_neg h2, if_pos h3]
          rw [e]
          exact .inl ⟨⟨x, Nat.le_refl _, by omega, h1, h2, h3⟩, rfl⟩
        · have e : rstep (Ep H x) (Eq' H x) y r = some r := by unfold rstep; rw [if_neg h1, if_neg h2, if_neg h3]
          rw [e]
          rcases rS_spec H y m (x + 1) r with ⟨⟨j, j1, j2, j3⟩, h⟩ | ⟨h, r', e', h4, h5⟩
          · exact .inl ⟨⟨j, by omega, by omega, j3⟩, h⟩
          · refine .inr ⟨all.2 ⟨fun hb => h3 hb.2.2, h⟩, r', e', fun X => ?_, fun X => ?_⟩
            · rw [h4 X, all]
              exact ⟨fun ⟨a, b⟩ => ⟨a, fun hh => absurd hh h2, b⟩, fun ⟨a, _, b⟩ => ⟨a, b⟩⟩
            · rw [h5 X, all]
              exact ⟨fun ⟨a, b⟩ => ⟨a, fun hh => absurd hh h1, b⟩, fun ⟨a, _, b⟩ => ⟨a, b⟩⟩
end Saw
end Go.SL

namespace Go.SL
namespace Saw

theorem cyc_all {n : Nat} {P : Nat → Prop} {i : Nat} (hi : i < n) (h0 : P i) (hs : ∀ x, x < n → P x → P ((x + 1) % n)) : ∀ x, x < n → P x := by
  have step : ∀ k, P ((i + k) % n) := by
    intro k
    induction k with
    | zero => rw [Nat.add_zero, Nat.mod_eq_of_lt hi]; exact h0
    | succ k ih =>
      have := hs _ (Nat.mod_lt _ (by omega)) ih
      rw [Nat.mod_add_mod] at this
      exact this
  intro x hx
  by_cases h : i ≤ x
  · have := step (x - i)
    rw [show i + (x - i) = x by omega, Nat.mod_eq_of_lt hx] at this
    exact this
  · have := step (n - i + x)
    rw [show i + (n - i + x) = n + x by omega, Nat.add_mod_left, Nat.mod_eq_of_lt hx] at this
    exact this
structure Cvx (H : List Point) : Prop where
  n3 : 3 ≤ H.length
  rg : ∀ p ∈ H, rng p
  lf : ∀ x, x < H.length → ∀ p ∈ H, 0 ≤ cross (Ep H x) (Eq' H x) p
  tn : ∀ x, x < H.length → 0 < cross (Ep H x) (Eq' H x) (Ep H ((x + 2) % H.length))
theorem mem_ix {H : List Point} {p : Point} (h : p ∈ H) : ∃ x, x < H.length ∧ Ep H x = p := by
  obtain ⟨x, hx, e⟩ := List.mem_iff_getElem.1 h
  exact ⟨x, hx, by rw [Ep, getD_el' hx]; exact e⟩
theorem not_flat {H : List Point} (hc : Cvx H) (c : Int) : ¬ ∀ p ∈ H, p.Y = c := by
  intro h
  have hn := hc.n3
  have t := hc.tn 0 (by omega)
  have y0 := h (Ep H 0) (getD_mem' (by omega))
  have y1 := h (Eq' H 0) (getD_mem' (Nat.mod_lt _ (by omega)))
  have y2 := h (Ep H ((0 + 2) % H.length)) (getD_mem' (Nat.mod_lt _ (by omega)))
  unfold cross at t
  rw [y0, y1, y2] at t
  simp at t
/-- A height between those of two corners is spanned by an edge that goes up. -/
theorem span_up {H : List Point} (hc : Cvx H) {y : Int} {a b : Point} (ha : a ∈ H) (hb : b ∈ H) (h1 : a.Y ≤ y) (h2 : y ≤ b.Y) : ∃ j, j < H.length ∧ spU (Ep H j) (Eq' H j) y := by
  refine Classical.byContradiction fun hno => ?_
  have no : ∀ j, j < H.length → ¬ spU (Ep H j) (Eq' H j) y := fun j hj hs => hno ⟨j, hj, hs⟩
  by_cases hlow : ∃ p ∈ H, p.Y < y
  · obtain ⟨p, hp, hpy⟩ := hlow
    obtain ⟨i, hi, e⟩ := mem_ix hp
    have := cyc_all (P := fun x => (Ep H x).Y < y) hi (by rw [e]; exact hpy) (fun x hx hx' => by
      have h3 : ¬ ((Ep H x).Y < (Eq' H x).Y ∧ (Ep H x).Y ≤ y ∧ y ≤ (Eq' H x).Y) := no x hx
      have h4 : (Ep H x).Y < y := hx'
      show (Eq' H x).Y < y
      omega)
    obtain ⟨k, hk, e'⟩ := mem_ix hb
    have := this k hk
    simp only [e'] at this
    omega
  · have hall : ∀ p ∈ H, y ≤ p.Y := fun p hp => by
      rcases Int.lt_or_le p.Y y with h | h
      · exact absurd ⟨p, hp, h⟩ hlow
      · exact h
    have hay : a.Y = y := by have := hall a ha; omega
    obtain ⟨i, hi, e⟩ := mem_ix ha
    have := cyc_all (P := fun x => (Ep H x).Y = y) hi (by rw [e]; exact hay) (fun x hx hx' => by
      have h3 : ¬ ((Ep H x).Y < (Eq' H x).Y ∧ (Ep H x).Y ≤ y ∧ y ≤ (Eq' H x).Y) := no x hx
      have h4 : y ≤ (Eq' H x).Y := hall (Eq' H x) (getD_mem' (Nat.mod_lt _ (by omega)))
      have h5 : (Ep H x).Y = y := hx'
      show (Eq' H x).Y = y
      omega)
    refine not_flat hc y (fun p hp => ?_)
    obtain ⟨k, hk, e'⟩ := mem_ix hp
    rw [← e']; exact this k hk
end Saw
end Go.SL

namespace Go.SL
namespace Saw

theorem span_dn {H : List Point} (hc : Cvx H) {y : Int} {a b : Point} (ha : a ∈ H) (hb : b ∈ H) (h1 : a.Y ≤ y) (h2 : y ≤ b.Y) : ∃ j, j < H.length ∧ spD (Ep H j) (Eq' H j) y := by
  refine Classical.byContradiction fun hno => ?_
  have no : ∀ j, j < H.length → ¬ spD (Ep H j) (Eq' H j) y := fun j hj hs => hno ⟨j, hj, hs⟩
  by_cases hhi : ∃ p ∈ H, y < p.Y
  · obtain ⟨p, hp, hpy⟩ := hhi
    obtain ⟨i, hi, e⟩ := mem_ix hp
    have := cyc_all (P := fun x => y < (Ep H x).Y) hi (by rw [e]; exact hpy) (fun x hx hx' => by
      have h3 : ¬ ((Eq' H x).Y < (Ep H x).Y ∧ (Eq' H x).Y ≤ y ∧ y ≤ (Ep H x).Y) := no x hx
      have h4 : y < (Ep H x).Y := hx'
      show y < (Eq' H x).Y
      omega)
    obtain ⟨k, hk, e'⟩ := mem_ix ha
    have := this k hk
    simp only [e'] at this
    omega
  · have hall : ∀ p ∈ H, p.Y ≤ y := fun p hp => by
      rcases Int.lt_or_le y p.Y with h | h
      · exact absurd ⟨p, hp, h⟩ hhi
      · exact h
    have hby : b.Y = y := by have := hall b hb; omega
    obtain ⟨i, hi, e⟩ := mem_ix hb
    have := cyc_all (P := fun x => (Ep H x).Y = y) hi (by rw [e]; exact hby) (fun x hx hx' => by
      have h3 : ¬ ((Eq' H x).Y < (Ep H x).Y ∧ (Eq' H x).Y ≤ y ∧ y ≤ (Ep H x).Y) := no x hx
      have h4 : (Eq' H x).Y ≤ y := hall (Eq' H x) (getD_mem' (Nat.mod_lt _ (by omega)))
      have h5 : (Ep H x).Y = y := hx'
      show (Eq' H x).Y = y
      omega)
    refine not_flat hc y (fun p hp => ?_)
    obtain ⟨k, hk, e'⟩ := mem_ix hp
    rw [← e']; exact this k hk
end Saw
end Go.SL

namespace Go.SL
namespace Saw

theorem no_bad {H : List Point} (hc : Cvx H) {y : Int} {a b : Point} (ha : a ∈ H) (hb : b ∈ H) (h1 : a.Y ≤ y) (h2 : y ≤ b.Y) {j : Nat} (hj : j < H.length) : ¬ bad (Ep H j) (Eq' H j) y := by
  rintro ⟨n1, n2, n3⟩
  have la := hc.lf j hj a ha
  have lb := hc.lf j hj b hb
  generalize Ep H j = p at *
  generalize Eq' H j = q at *
  have hy : q.Y - p.Y = 0 := by omega
  unfold cross at la lb
  rw [hy, Int.mul_zero] at la lb
  rcases Int.lt_trichotomy (q.X - p.X) 0 with h | h | h
  · have : 0 ≤ (q.X - p.X) * (y - b.Y) := by
      have := Int.mul_nonneg (show 0 ≤ -(q.X - p.X) by omega) (show 0 ≤ b.Y - y by omega)
      have e : -(q.X - p.X) * (b.Y - y) = (q.X - p.X) * (y - b.Y) := by grind
      omega
    have e : (q.X - p.X) * (y - p.Y) = (q.X - p.X) * (y - b.Y) + (q.X - p.X) * (b.Y - p.Y) := by grind
    omega
  · rw [h] at n3; simp at n3
  · have : 0 ≤ (q.X - p.X) * (y - a.Y) := Int.mul_nonneg (by omega) (by omega)
    have e : (q.X - p.X) * (y - p.Y) = (q.X - p.X) * (y - a.Y) + (q.X - p.X) * (a.Y - p.Y) := by grind
    omega
end Saw
end Go.SL

namespace Go.SL
namespace Saw

theorem upB_le {p q : Point} {y : Int} (hp : rng p) (hq : rng q) (h : spU p q y) : upB p q y ≤ 600 := by
  refine Classical.byContradiction fun hn => ?_
  have hb := (upB_iff h.1 601 y).1 (by omega)
  unfold cross at hb
  simp only at hb
  have e : (q.X - p.X) * (y - p.Y) - (601 - p.X) * (q.Y - p.Y) = -((601 - q.X) * (y - p.Y)) - (601 - p.X) * (q.Y - y) := by grind
  have a1 := Int.mul_nonneg (show 0 ≤ 601 - q.X by omega) (show 0 ≤ y - p.Y by omega)
  have a2 := Int.mul_nonneg (show 0 ≤ 601 - p.X by omega) (show 0 ≤ q.Y - y by omega)
  rcases Int.lt_or_eq_of_le (show 0 ≤ y - p.Y by omega) with h3 | h3
  · have := Int.mul_pos (show 0 < 601 - q.X by omega) h3
    omega
  · have := Int.mul_pos (show 0 < 601 - p.X by omega) (show 0 < q.Y - y by omega)
    omega
end Saw
end Go.SL

namespace Go.SL
namespace Saw

theorem dnB_ge {p q : Point} {y : Int} (hp : rng p) (hq : rng q) (h : spD p q y) : -600 ≤ dnB p q y := by
  refine Classical.byContradiction fun hn => ?_
  have hb := (dnB_iff h.1 (-601) y).1 (by omega)
  unfold cross at hb
  simp only at hb
  have e : (q.X - p.X) * (y - p.Y) - (-601 - p.X) * (q.Y - p.Y) = -((601 + q.X) * (p.Y - y)) - (601 + p.X) * (y - q.Y) := by grind
  have a1 := Int.mul_nonneg (show 0 ≤ 601 + q.X by omega) (show 0 ≤ p.Y - y by omega)
  have a2 := Int.mul_nonneg (show 0 ≤ 601 + p.X by omega) (show 0 ≤ y - q.Y by omega)
  rcases Int.lt_or_eq_of_le (show 0 ≤ p.Y - y by omega) with h3 | h3
  · have := Int.mul_pos (show 0 < 601 + q.X by omega) h3
    omega
  · have := Int.mul_pos (show 0 < 601 + p.X by omega) (show 0 < y - q.Y by omega)
    omega
end Saw
end Go.SL

namespace Go.SL
namespace Saw

theorem eq_of_le_iff {a b : Int} (h : ∀ X, X ≤ a ↔ X ≤ b) : a = b := by have h1 := (h a).1 (Int.le_refl _); have h2 := (h b).2 (Int.le_refl _); omega
theorem eq_of_ge_iff {a b : Int} (h : ∀ X, a ≤ X ↔ b ≤ X) : a = b := by have h1 := (h a).1 (Int.le_refl _); have h2 := (h b).2 (Int.le_refl _); omega
theorem both_eq {H : List Point} (hc : Cvx H) {y : Int} {a b : Point} (ha : a ∈ H) (hb : b ∈ H) (h1 : a.Y ≤ y) (h2 : y ≤ b.Y) (r : Int × Int) : rS H y 0 H.length (-600, 600) = .inr (pS H y 0 H.length r) := by
  have hn := hc.n3
  have mq : ∀ j, Eq' H j ∈ H := fun j => getD_mem' (Nat.mod_lt _ (by omega))
  have mp : ∀ j, j < H.length → Ep H j ∈ H := fun j hj => getD_mem' hj
  rcases rS_spec H y H.length 0 (-600, 600) with ⟨⟨j, _, j2, j3⟩, _⟩ | ⟨_, r', e, g1, g2⟩
  · exact absurd j3 (no_bad hc ha hb h1 h2 (by omega))
  rw [e]
  congr 1
  refine Prod.ext ?_ ?_
  · rcases pS_dn H y H.length 0 r with ⟨_, h⟩ | ⟨j, _, j2, j3, j4⟩
    · obtain ⟨j, hj, hs⟩ := span_dn hc ha hb h1 h2
      exact absurd hs (h j (by omega) (by omega))
    · have hj : j < H.length := by omega
      rw [j4]
      refine eq_of_ge_iff (fun X => ?_)
      rw [g1 X]
      refine ⟨fun h => h.2 j (by omega) j2 j3.1, fun h => ⟨Int.le_trans (dnB_ge (hc.rg _ (mp j hj)) (hc.rg _ (mq j)) j3) h, fun k k1 k2 k3 => Int.le_trans (dn_dn j3.1 j3.2.1 j3.2.2 k3 (hc.lf k (by omega) _ (mp j hj)) (hc.lf k (by omega) _ (mq j))) h⟩⟩
  · rcases pS_up H y H.length 0 r with ⟨_, h⟩ | ⟨j, _, j2, j3, j4⟩
    · obtain ⟨j, hj, hs⟩ := span_up hc ha hb h1 h2
      exact absurd hs (h j (by omega) (by omega))
    · have hj : j < H.length := by omega
      rw [j4]
      refine eq_of_le_iff (fun X => ?_)
      rw [g2 X]
      refine ⟨fun h => h.2 j (by omega) j2 j3.1, fun h => ⟨Int.le_trans h (upB_le (hc.rg _ (mp j hj)) (hc.rg _ (mq j)) j3), fun k k1 k2 k3 => Int.le_trans h (up_up j3.1 j3.2.1 j3.2.2 k3 (hc.lf k (by omega) _ (mp j hj)) (hc.lf k (by omega) _ (mq j)))⟩⟩
end Saw
end Go.SL

namespace Go.SL
namespace Saw

theorem out_key {u v z : Point} {X y : Int} (h1 : 0 ≤ cross u v ⟨X, y⟩) (h2 : 0 ≤ cross v z ⟨X, y⟩) (h3 : 0 < cross u v z) : ¬ ((v.Y < u.Y ∧ v.Y < z.Y ∧ y < v.Y) ∨ (u.Y < v.Y ∧ z.Y < v.Y ∧ v.Y < y)) := by
  have key : cross u v z * (v.Y - y) = -(cross u v ⟨X, y⟩ * (z.Y - v.Y)) - cross v z ⟨X, y⟩ * (u.Y - v.Y) := by unfold cross; grind
  rintro (⟨a1, a2, a3⟩ | ⟨a1, a2, a3⟩)
  · have b1 := Int.mul_pos h3 (show 0 < v.Y - y by omega)
    have b2 := Int.mul_nonneg h1 (show 0 ≤ z.Y - v.Y by omega)
    have b3 := Int.mul_nonneg h2 (show 0 ≤ u.Y - v.Y by omega)
    omega
  · have b1 := Int.mul_pos h3 (show 0 < y - v.Y by omega)
    have b2 := Int.mul_nonneg h1 (show 0 ≤ v.Y - z.Y by omega)
    have b3 := Int.mul_nonneg h2 (show 0 ≤ v.Y - u.Y by omega)
    have e1 : cross u v z * (y - v.Y) = -(cross u v z * (v.Y - y)) := by grind
    have e2 : cross u v ⟨X, y⟩ * (v.Y - z.Y) = -(cross u v ⟨X, y⟩ * (z.Y - v.Y)) := by grind
    have e3 : cross v z ⟨X, y⟩ * (v.Y - u.Y) = -(cross v z ⟨X, y⟩ * (u.Y - v.Y)) := by grind
    omega
end Saw
end Go.SL

namespace Go.SL
namespace Saw

/-- Somewhere the walk around comes to a value that some corner does not have. -/
theorem cyc_enter {H : List Point} (hc : Cvx H) (c : Int) (hm : ∃ p ∈ H, p.Y = c) : ∃ x, x < H.length ∧ (Ep H x).Y ≠ c ∧ (Eq' H x).Y = c := by
  refine Classical.byContradiction fun hno => ?_
  have no : ∀ x, x < H.length → (Ep H x).Y ≠ c → (Eq' H x).Y ≠ c := fun x hx h1 h2 => hno ⟨x, hx, h1, h2⟩
  have hne : ∃ p ∈ H, p.Y ≠ c := Classical.byContradiction fun h => not_flat hc c (fun p hp => Classical.byContradiction fun h' => h ⟨p, hp, h'⟩)
  obtain ⟨p, hp, hpc⟩ := hne
  obtain ⟨i, hi, e⟩ := mem_ix hp
  have := cyc_all (P := fun x => (Ep H x).Y ≠ c) hi (by rw [e]; exact hpc) (fun x hx h => no x hx h)
  obtain ⟨q, hq, hqc⟩ := hm
  obtain ⟨k, hk, e'⟩ := mem_ix hq
  exact this k hk (by rw [e']; exact hqc)
theorem nxt_ix {H : List Point} (hc : Cvx H) {x : Nat} (hx : x < H.length) : Ep H ((x + 1) % H.length) = Eq' H x ∧ Eq' H ((x + 1) % H.length) = Ep H ((x + 2) % H.length) := by
  refine ⟨rfl, ?_⟩
  show H.getD (((x + 1) % H.length + 1) % H.length) default = H.getD ((x + 2) % H.length) default
  rw [Nat.mod_add_mod]
/-- Below the lowest or above the highest corner: no X is left of all edges, or a horizontal edge refuses. -/
theorem out_none {H : List Point} (hc : Cvx H) {y : Int} (hy : (∀ p ∈ H, y < p.Y) ∨ (∀ p ∈ H, p.Y < y)) (hnb : ∀ j, j < H.length → ¬ bad (Ep H j) (Eq' H j) y) (X : Int) : ¬ ∀ j, j < H.length → 0 ≤ cross (Ep H j) (Eq' H j) ⟨X, y⟩ := by
  intro hall
  have hn := hc.n3
  have mp : ∀ j, j < H.length → Ep H j ∈ H := fun j hj => getD_mem' hj
  -- an extreme corner
  have ext : ∃ c, (∃ p ∈ H, p.Y = c) ∧ ((y < c ∧ ∀ p ∈ H, c ≤ p.Y) ∨ (c < y ∧ ∀ p ∈ H, p.Y ≤ c)) := by
    have gen : ∀ l : List Point, l ≠ [] → (∃ p ∈ l, ∀ q ∈ l, p.Y ≤ q.Y) ∧ (∃ p ∈ l, ∀ q ∈ l, q.Y ≤ p.Y) := by
      intro l
      induction l with
      | nil => intro h; exact absurd rfl h
      | cons a l ih =>
        intro _
        by_cases hl : l = []
        · subst hl; exact ⟨⟨a, by simp, by simp⟩, ⟨a, by simp, by simp⟩⟩
        · obtain ⟨⟨p, hp, h1⟩, q, hq, h2⟩ := ih hl
          constructor
          · by_cases h : a.Y ≤ p.Y
            · exact ⟨a, by simp, fun r hr => by rcases List.mem_cons.1 hr with rfl | hr; · exact Int.le_refl _
                                                · exact Int.le_trans h (h1 r hr)⟩
            · exact ⟨p, List.mem_cons_of_mem _ hp, fun r hr => by rcases List.mem_cons.1 hr with rfl | hr; · omega
                                                                  · exact h1 r hr⟩
          · by_cases h : q.Y ≤ a.Y
            · exact ⟨a, by simp, fun r hr => by rcases List.mem_cons.1 hr with rfl | hr; · exact Int.le_refl _
                                                · exact Int.le_trans (h2 r hr) h⟩
            · exact ⟨q, List.mem_cons_of_mem _ hq, fun r hr => by rcases List.mem_cons.1 hr with rfl | hr; · omega
                                                                  · exact h2 r hr⟩
    obtain ⟨⟨p, hp, h1⟩, q, hq, h2⟩ := gen H (fun e => by rw [e] at hn; simp at hn)
    rcases hy with hy | hy
    · exact ⟨p.Y, ⟨p, hp, rfl⟩, .inl ⟨hy p hp, h1⟩⟩
    · exact ⟨q.Y, ⟨q, hq, rfl⟩, .inr ⟨hy q hq, h2⟩⟩
  obtain ⟨c, hcm, hce⟩ := ext
  obtain ⟨x, hx, x1, x2⟩ := cyc_enter hc c hcm
  have hx' : (x + 1) % H.length < H.length := Nat.mod_lt _ (by omega)
  have hx2 : (x + 2) % H.length < H.length := Nat.mod_lt _ (by omega)
  obtain ⟨i1, i2⟩ := nxt_ix hc hx
  have c1 := hall x hx
  have c2 := hall _ hx'
  have nb := hnb _ hx'
  have t := hc.tn x hx
  have mu := mp x hx
  have mz := mp _ hx2
  rw [i1, i2] at c2 nb
  generalize Ep H x = u at *
  generalize Eq' H x = v at *
  generalize Ep H ((x + 2) % H.length) = z at *
  have key := out_key c1 c2 t
  rcases hce with ⟨y1, y2⟩ | ⟨y1, y2⟩
  · have yu := y2 u mu
    have yz := y2 z mz
    by_cases hz : z.Y = v.Y
    · refine nb ⟨by omega, by omega, ?_⟩
      have e : cross u v z = (u.Y - v.Y) * (z.X - v.X) := by unfold cross; rw [hz]; grind
      rw [e] at t
      have hp : 0 < z.X - v.X := by
        refine Classical.byContradiction fun h => ?_
        have := Int.mul_nonneg (show 0 ≤ u.Y - v.Y by omega) (show 0 ≤ -(z.X - v.X) by omega)
        rw [Int.mul_neg] at this
        omega
      have := Int.mul_pos hp (show 0 < v.Y - y by omega)
      have e2 : (z.X - v.X) * (y - v.Y) = -((z.X - v.X) * (v.Y - y)) := by grind
      omega
    · exact key (.inl ⟨by omega, by omega, by omega⟩)
  · have yu := y2 u mu
    have yz := y2 z mz
    by_cases hz : z.Y = v.Y
    · refine nb ⟨by omega, by omega, ?_⟩
      have e : cross u v z = (v.Y - u.Y) * (v.X - z.X) := by unfold cross; rw [hz]; grind
      rw [e] at t
      have hp : 0 < v.X - z.X := by
        refine Classical.byContradiction fun h => ?_
        have := Int.mul_nonneg (show 0 ≤ v.Y - u.Y by omega) (show 0 ≤ -(v.X - z.X) by omega)
        rw [Int.mul_neg] at this
        omega
      have := Int.mul_pos hp (show 0 < y - v.Y by omega)
      have e2 : (z.X - v.X) * (y - v.Y) = -((v.X - z.X) * (y - v.Y)) := by grind
      omega
    · exact key (.inr ⟨by omega, by omega, by omega⟩)
end Saw
end Go.SL

namespace Go.SL
namespace Saw

theorem hull_of {a : List Point} (h : hull a ≠ []) : a.length ≤ 32 ∧ a.all inRange = true ∧ hull a = hullOf (srt a) ∧ ¬ (chainR (srt a)).length + (chainR (srt a).reverse).length < 5 := by
  unfold hull at h ⊢
  by_cases h1 : ((a.length : Nat) : Int) > 32
  · rw [decide_eq_true h1] at h; exact absurd rfl h
  · rw [decide_eq_false h1] at h ⊢
    cases hr : a.all inRange with
    | false => rw [hr] at h; exact absurd rfl h
    | true =>
      rw [hr] at h
      simp only [cond_false, cond_true] at h ⊢
      refine ⟨by omega, trivial, trivial, fun h5 => h ?_⟩
      unfold hullOf
      rw [if_pos h5]
theorem hull_mem {a : List Point} {p : Point} (hp : p ∈ hull a) : p ∈ a := by
  have h : hull a ≠ [] := fun e => by rw [e] at hp; cases hp
  obtain ⟨_, _, e, h5⟩ := hull_of h
  rw [e] at hp
  exact (srt_mem a p).1 ((hull_left (srt_strict a) h5).2.1 p hp)
theorem hull_lf {a : List Point} {x : Nat} (hx : x < (hull a).length) {p : Point} (hp : p ∈ a) : 0 ≤ cross (Ep (hull a) x) (Eq' (hull a) x) p := by
  have h : hull a ≠ [] := fun e => by rw [e] at hx; simp at hx
  obtain ⟨_, _, e, h5⟩ := hull_of h
  rw [e] at hx ⊢
  exact (hull_left (srt_strict a) h5).2.2 x hx p ((srt_mem a p).2 hp)
theorem hull_rng {a : List Point} {p : Point} (hp : p ∈ hull a) : rng p := by
  have h : hull a ≠ [] := fun e => by rw [e] at hp; cases hp
  obtain ⟨_, hr, _, _⟩ := hull_of h
  exact inRange_iff.1 (List.all_eq_true.1 hr p (hull_mem hp))
theorem hull_cvx {a : List Point} (h : hull a ≠ []) : Cvx (hull a) := by
  obtain ⟨_, _, e, h5⟩ := hull_of h
  refine ⟨by rw [e]; exact (hull_left (srt_strict a) h5).1, fun p hp => hull_rng hp, fun x hx p hp => hull_lf hx (hull_mem hp), fun x hx => ?_⟩
  rw [e] at hx ⊢
  exact hull_turns (srt_strict a) h5 x hx

/-- The region of a convex polygon: left of every edge. -/
def inH (H : List Point) (X y : Int) : Prop := ∀ j, j < H.length → 0 ≤ cross (Ep H j) (Eq' H j) ⟨X, y⟩

/-- The least and the greatest height of the corners. -/
structure YB (H : List Point) (l h : Int) : Prop where
  lo : ∃ p ∈ H, p.Y = l
  hi : ∃ p ∈ H, p.Y = h
  all : ∀ p ∈ H, l ≤ p.Y ∧ p.Y ≤ h
theorem bounds_fold : ∀ (l : List Point) (r : Rect), ((l.foldl bstep r).Y.A = r.Y.A ∨ ∃ p ∈ l, p.Y = (l.foldl bstep r).Y.A) ∧ ((l.foldl bstep r).Y.B = r.Y.B ∨ ∃ p ∈ l, p.Y = (l.foldl bstep r).Y.B) ∧ (l.foldl bstep r).Y.A ≤ r.Y.A ∧ r.Y.B ≤ (l.foldl bstep r).Y.B ∧ ∀ p ∈ l, (l.foldl bstep r).Y.A ≤ p.Y ∧ p.Y ≤ (l.foldl bstep r).Y.B
  | [], r => ⟨.inl rfl, .inl rfl, Int.le_refl _, Int.le_refl _, fun p hp => by cases hp⟩
  | a :: l, r => by
    obtain ⟨h1, h2, h3, h4, h5⟩ := bounds_fold l (bstep r a)
    have eA : (bstep r a).Y.A = imin r.Y.A a.Y := rfl
    have eB : (bstep r a).Y.B = imax r.Y.B a.Y := rfl
    have mA : imin r.Y.A a.Y ≤ r.Y.A ∧ imin r.Y.A a.Y ≤ a.Y ∧ (imin r.Y.A a.Y = r.Y.A ∨ imin r.Y.A a.Y = a.Y) := by unfold imin; split <;> omega
    have mB : r.Y.B ≤ imax r.Y.B a.Y ∧ a.Y ≤ imax r.Y.B a.Y ∧ (imax r.Y.B a.Y = r.Y.B ∨ imax r.Y.B a.Y = a.Y) := by unfold imax; split <;> omega
    rw [eA] at h1 h3
    rw [eB] at h2 h4
    simp only [List.foldl_cons]
    refine ⟨?_, ?_, by omega, by omega, fun p hp => ?_⟩
    · rcases h1 with h1 | ⟨p, hp, e⟩
      · rcases mA.2.2 with e | e
        · exact .inl (h1.trans e)
        · exact .inr ⟨a, by simp, by omega⟩
      · exact .inr ⟨p, List.mem_cons_of_mem _ hp, e⟩
    · rcases h2 with h2 | ⟨p, hp, e⟩
      · rcases mB.2.2 with e | e
        · exact .inl (h2.trans e)
        · exact .inr ⟨a, by simp, by omega⟩
      · exact .inr ⟨p, List.mem_cons_of_mem _ hp, e⟩
    · rcases List.mem_cons.1 hp with rfl | hp
      · omega
      · exact h5 p hp
theorem bounds_YB {H : List Point} (h : H ≠ []) : YB H (bounds H).Y.A (bounds H).Y.B := by
  cases H with
  | nil => exact absurd rfl h
  | cons a l =>
    obtain ⟨h1, h2, h3, h4, h5⟩ := bounds_fold l (Rect.mk (Span.mk a.X a.X) (Span.mk a.Y a.Y))
    unfold bounds
    simp only at h3 h4 ⊢
    refine ⟨?_, ?_, fun p hp => ?_⟩
    · rcases h1 with h1 | ⟨p, hp, e⟩
      · exact ⟨a, by simp, h1.symm⟩
      · exact ⟨p, List.mem_cons_of_mem _ hp, e⟩
    · rcases h2 with h2 | ⟨p, hp, e⟩
      · exact ⟨a, by simp, h2.symm⟩
      · exact ⟨p, List.mem_cons_of_mem _ hp, e⟩
    · rcases List.mem_cons.1 hp with rfl | hp
      · exact ⟨h3, h4⟩
      · exact h5 p hp
end Saw
end Go.SL

namespace Go.SL
namespace Saw

/-- The least and the greatest X at a height, as the program's loop gives them. -/
def atS (H : List Point) (y : Int) : Int × Int := pS H y 0 H.length ((bounds H).X.A, (bounds H).X.B)
theorem cross_flat {p q : Point} (h1 : ¬ p.Y < q.Y) (h2 : ¬ q.Y < p.Y) (X y : Int) : cross p q ⟨X, y⟩ = (q.X - p.X) * (y - p.Y) := by
  have e : q.Y - p.Y = 0 := by omega
  unfold cross
  rw [e]
  simp
theorem rS_none {H : List Point} (hc : Cvx H) {y : Int} (hy : (∀ p ∈ H, y < p.Y) ∨ (∀ p ∈ H, p.Y < y)) : ∃ r : Int × Int, (rS H y 0 H.length (-600, 600) = .inl r ∨ rS H y 0 H.length (-600, 600) = .inr r) ∧ r.2 < r.1 := by
  rcases rS_spec H y H.length 0 (-600, 600) with ⟨_, e⟩ | ⟨nb, r', e, g1, g2⟩
  · exact ⟨(1, 0), .inl e, by decide⟩
  · refine ⟨r', .inr e, Classical.byContradiction fun hn => ?_⟩
    have k1 := (g1 r'.1).1 (Int.le_refl _)
    have k2 := (g2 r'.1).1 (by omega)
    refine out_none hc hy (fun j hj => nb j (by omega) (by omega)) r'.1 (fun j hj => ?_)
    by_cases c1 : (Ep H j).Y < (Eq' H j).Y
    · exact (upB_iff c1 _ _).1 (k2.2 j (by omega) (by omega) c1)
    · by_cases c2 : (Eq' H j).Y < (Ep H j).Y
      · exact (dnB_iff c2 _ _).1 (k1.2 j (by omega) (by omega) c2)
      · have := nb j (by omega) (by omega)
        rw [cross_flat c1 c2]
        refine Classical.byContradiction fun h => this ⟨c1, c2, by omega⟩
theorem at_iff {H : List Point} (hc : Cvx H) {lo hi : Int} (hb : YB H lo hi) {y : Int} (h1 : lo ≤ y) (h2 : y ≤ hi) (X : Int) : ((atS H y).1 ≤ X ∧ X ≤ (atS H y).2) ↔ inH H X y := by
  obtain ⟨p, hp, ep⟩ := hb.lo
  obtain ⟨q, hq, eq⟩ := hb.hi
  have be := both_eq hc hp hq (show p.Y ≤ y by omega) (show y ≤ q.Y by omega) ((bounds H).X.A, (bounds H).X.B)
  rcases rS_spec H y H.length 0 (-600, 600) with ⟨_, e⟩ | ⟨nb, r', e, g1, g2⟩
  · rw [be] at e; cases e
  · rw [be] at e
    have e' : atS H y = r' := Sum.inr.inj e
    rw [e', g1 X, g2 X]
    constructor
    · rintro ⟨⟨_, k1⟩, _, k2⟩ j hj
      by_cases c1 : (Ep H j).Y < (Eq' H j).Y
      · exact (upB_iff c1 _ _).1 (k2 j (by omega) (by omega) c1)
      · by_cases c2 : (Eq' H j).Y < (Ep H j).Y
        · exact (dnB_iff c2 _ _).1 (k1 j (by omega) (by omega) c2)
        · have := nb j (by omega) (by omega)
          rw [cross_flat c1 c2]
          refine Classical.byContradiction fun h => this ⟨c1, c2, by omega⟩
    · intro hin
      have hn := hc.n3
      have mq : ∀ j, Eq' H j ∈ H := fun j => getD_mem' (Nat.mod_lt _ (by omega))
      have mp : ∀ j, j < H.length → Ep H j ∈ H := fun j hj => getD_mem' hj
      obtain ⟨u, hu, su⟩ := span_up hc hp hq (show p.Y ≤ y by omega) (show y ≤ q.Y by omega)
      obtain ⟨d, hd, sd⟩ := span_dn hc hp hq (show p.Y ≤ y by omega) (show y ≤ q.Y by omega)
      have b1 := upB_le (hc.rg _ (mp u hu)) (hc.rg _ (mq u)) su
      have b2 := dnB_ge (hc.rg _ (mp d hd)) (hc.rg _ (mq d)) sd
      have b3 := (upB_iff su.1 X y).2 (hin u hu)
      have b4 := (dnB_iff sd.1 X y).2 (hin d hd)
      exact ⟨⟨by show -600 ≤ X; omega, fun j j1 j2 j3 => (dnB_iff j3 X y).2 (hin j (by omega))⟩, by show X ≤ 600; omega, fun j j1 j2 j3 => (upB_iff j3 X y).2 (hin j (by omega))⟩
theorem in_YB {H : List Point} (hc : Cvx H) {lo hi : Int} (hb : YB H lo hi) {X y : Int} (h : inH H X y) : lo ≤ y ∧ y ≤ hi := by
  have nb : ∀ j, j < H.length → ¬ bad (Ep H j) (Eq' H j) y := fun j hj hb => by
    have := h j hj
    rw [cross_flat hb.1 hb.2.1] at this
    have := hb.2.2
    omega
  refine ⟨Classical.byContradiction fun hn => ?_, Classical.byContradiction fun hn => ?_⟩
  · exact out_none hc (.inl fun p hp => by have := (hb.all p hp).1; omega) nb X h
  · exact out_none hc (.inr fun p hp => by have := (hb.all p hp).2; omega) nb X h

def chord (a : List Point) (lo hi : Int) : Span :=
  if hull a = [] ∨ hi ≤ lo ∨ lo < (bounds (hull a)).Y.A ∨ (bounds (hull a)).Y.B < hi then ⟨0, 0⟩
  else if imin (atS (hull a) lo).2 (atS (hull a) hi).2 ≤ imax (atS (hull a) lo).1 (atS (hull a) hi).1 then ⟨0, 0⟩
  else ⟨imax (atS (hull a) lo).1 (atS (hull a) hi).1, imin (atS (hull a) lo).2 (atS (hull a) hi).2⟩
theorem YB.rg {H : List Point} {lo hi : Int} (hb : YB H lo hi) (hr : ∀ p ∈ H, rng p) : -600 ≤ lo ∧ hi ≤ 600 := by
  obtain ⟨p, hp, ep⟩ := hb.lo
  obtain ⟨q, hq, eq⟩ := hb.hi
  have h1 := hr p hp
  have h2 := hr q hq
  omega
theorem hull_len32 (a : List Point) : (hull a).length ≤ 64 := by
  by_cases h : hull a = []
  · rw [h]; simp
  · have := (hull_of h).1
    have := hull_len a
    omega
theorem chord_1 {H : List Point} (hr : ∀ p ∈ H, rng p) {y : Int} (hy : -600 ≤ y ∧ y ≤ 600) (hl : H.length ≤ 64) : poly_Chord_1 y (bounds H) H = some (atS H y) := by
  have := chord_loop H y hr hy (by omega) H.length FUEL 0 ((bounds H).X.A, (bounds H).X.B) (by omega) (by rw [FUEL_eq]; omega)
  unfold poly_Chord_1
  rw [show ((0 : Nat) : Int) = 0 from rfl] at this
  simp only at this
  rw [this]
  rfl
theorem polyChord_eq (a : List Point) (lo hi : Int) : poly_Chord a lo hi = some (chord a lo hi) := by
  have hl := hull_len32 a
  unfold poly_Chord poly_Chord_k1 chord
  rw [polyHull_eq]
  simp only [Option.bind_some, (bounds_eq (hull a) (by omega)).1]
  by_cases h0 : hull a = []
  · rw [h0]; simp
  have e0 : ((((hull a).length : Nat) : Int) == 0) = false := by
    have : 0 < (hull a).length := List.length_pos_iff.2 h0
    rw [beq_eq_false_iff_ne]; omega
  have hb := bounds_YB h0
  have hbr := hb.rg (fun p hp => hull_rng hp)
  rw [e0]
  by_cases h1 : hi ≤ lo
  · rw [decide_eq_true (show lo ≥ hi from h1), if_pos (.inr (.inl h1))]; rfl
  rw [decide_eq_false (show ¬ lo ≥ hi from h1)]
  by_cases h2 : lo < (bounds (hull a)).Y.A
  · rw [decide_eq_true h2, if_pos (.inr (.inr (.inl h2)))]; rfl
  rw [decide_eq_false h2]
  by_cases h3 : (bounds (hull a)).Y.B < hi
  · rw [decide_eq_true (show hi > (bounds (hull a)).Y.B from h3), if_pos (.inr (.inr (.inr h3)))]; rfl
  rw [decide_eq_false (show ¬ hi > (bounds (hull a)).Y.B from h3), if_neg (by simp only [h0, false_or]; omega)]
  rw [chord_1 (fun p hp => hull_rng hp) (show -600 ≤ lo ∧ lo ≤ 600 by omega) hl, chord_1 (fun p hp => hull_rng hp) (show -600 ≤ hi ∧ hi ≤ 600 by omega) hl]
  simp only [cond_false, Option.bind_some]
  by_cases h4 : imin (atS (hull a) lo).2 (atS (hull a) hi).2 ≤ imax (atS (hull a) lo).1 (atS (hull a) hi).1
  · rw [decide_eq_true (show _ ≥ _ from h4), if_pos h4]; rfl
  · rw [decide_eq_false (show ¬ _ ≥ _ from h4), if_neg h4]; rfl
theorem across_eq {H : List Point} (hr : ∀ p ∈ H, rng p) {y : Int} (hy : -600 ≤ y ∧ y ≤ 600) (hl : H.length ≤ 64) : ∀ r, (rS H y 0 H.length (-600, 600) = .inl r ∨ rS H y 0 H.length (-600, 600) = .inr r) → ref09_across H y = some r := by
  intro r h
  have := across_loop H y hr hy (by omega) H.length FUEL 0 (-600) 600 (by omega) (by rw [FUEL_eq]; omega)
  unfold ref09_across
  rw [show ((0 : Nat) : Int) = 0 from rfl] at this
  rw [this]
  rcases h with h | h <;> rw [h] <;> rfl
theorem refChord_eq (a : List Point) (lo hi : Int) : ref09_Chord a lo hi = some (chord a lo hi) := by
  have hl := hull_len32 a
  unfold ref09_Chord ref09_Chord_k1 chord
  rw [refHull_eq]
  simp only [Option.bind_some]
  by_cases h0 : hull a = []
  · rw [h0]; simp
  have e0 : ((((hull a).length : Nat) : Int) == 0) = false := by
    have : 0 < (hull a).length := List.length_pos_iff.2 h0
    rw [beq_eq_false_iff_ne]; omega
  have hb := bounds_YB h0
  have hbr := hb.rg (fun p hp => hull_rng hp)
  have hc := hull_cvx h0
  rw [e0]
  by_cases h1 : hi ≤ lo
  · rw [decide_eq_true (show lo ≥ hi from h1), if_pos (.inr (.inl h1))]; rfl
  rw [decide_eq_false (show ¬ lo ≥ hi from h1)]
  by_cases h2 : lo < -600
  · rw [decide_eq_true h2, if_pos (.inr (.inr (.inl (by omega))))]; rfl
  rw [decide_eq_false h2]
  by_cases h3 : 600 < hi
  · rw [decide_eq_true (show hi > 600 from h3), if_pos (.inr (.inr (.inr (by omega))))]; rfl
  rw [decide_eq_false (show ¬ hi > 600 from h3)]
  simp only [cond_false]
  have some_r : ∀ y, ∃ r, (rS (hull a) y 0 (hull a).length (-600, 600) = .inl r ∨ rS (hull a) y 0 (hull a).length (-600, 600) = .inr r) := fun y => by
    cases h : rS (hull a) y 0 (hull a).length (-600, 600) with
    | inl r => exact ⟨r, .inl rfl⟩
    | inr r => exact ⟨r, .inr rfl⟩
  have inner : ∀ y, (bounds (hull a)).Y.A ≤ y → y ≤ (bounds (hull a)).Y.B → ref09_across (hull a) y = some (atS (hull a) y) := fun y y1 y2 => by
    obtain ⟨p, hp, ep⟩ := hb.lo
    obtain ⟨q, hq, eq⟩ := hb.hi
    exact across_eq (fun p hp => hull_rng hp) (by omega) hl _ (.inr (both_eq hc hp hq (by omega) (by omega) _))
  by_cases h4 : lo < (bounds (hull a)).Y.A
  · rw [if_pos (.inr (.inr (.inl h4)))]
    obtain ⟨r, hr, hlt⟩ := rS_none hc (y := lo) (.inl fun p hp => by have := (hb.all p hp).1; omega)
    obtain ⟨r2, hr2⟩ := some_r hi
    rw [across_eq (fun p hp => hull_rng hp) (by omega) hl _ hr, across_eq (fun p hp => hull_rng hp) (by omega) hl _ hr2]
    simp only [Option.bind_some]
    rw [decide_eq_true (show r.1 > r.2 from hlt)]
    rfl
  by_cases h5 : (bounds (hull a)).Y.B < hi
  · rw [if_pos (.inr (.inr (.inr h5)))]
    obtain ⟨r2, hr2, hlt⟩ := rS_none hc (y := hi) (.inr fun p hp => by have := (hb.all p hp).2; omega)
    obtain ⟨r, hr⟩ := some_r lo
    rw [across_eq (fun p hp => hull_rng hp) (by omega) hl _ hr, across_eq (fun p hp => hull_rng hp) (by omega) hl _ hr2]
    simp only [Option.bind_some]
    rw [decide_eq_true (show r2.1 > r2.2 from hlt)]
    cases decide (r.1 > r.2) <;> rfl
  rw [if_neg (by simp only [h0, false_or]; omega), inner lo (by omega) (by omega), inner hi (by omega) (by omega)]
  simp only [Option.bind_some, ref09_Chord_k2]
  have i1 : ∀ a b : Int, imin a b ≤ a ∧ imin a b ≤ b := fun a b => by unfold imin; split <;> omega
  have i2 : ∀ a b : Int, a ≤ imax a b ∧ b ≤ imax a b := fun a b => by unfold imax; split <;> omega
  have m1 := i1 (atS (hull a) lo).2 (atS (hull a) hi).2
  have m2 := i2 (atS (hull a) lo).1 (atS (hull a) hi).1
  by_cases h6 : (atS (hull a) lo).1 > (atS (hull a) lo).2
  · rw [decide_eq_true h6, if_pos (by omega)]; rfl
  rw [decide_eq_false h6]
  by_cases h7 : (atS (hull a) hi).1 > (atS (hull a) hi).2
  · rw [decide_eq_true h7, if_pos (by omega)]; rfl
  rw [decide_eq_false h7]
  by_cases h8 : imin (atS (hull a) lo).2 (atS (hull a) hi).2 ≤ imax (atS (hull a) lo).1 (atS (hull a) hi).1
  · rw [decide_eq_true (show _ ≥ _ from h8), if_pos h8]; rfl
  · rw [decide_eq_false (show ¬ _ ≥ _ from h8), if_neg h8]; rfl
theorem PolyChords_true (a : List Point) (lo hi : Int) (_ : a.length ≤ maxLen ∧ ∀ p ∈ a, i64ok p.X ∧ i64ok p.Y) (_ : i64ok lo) (_ : i64ok hi) : law09_PolyChords a lo hi = some true := by
  unfold law09_PolyChords law09_few
  simp only [Option.bind_some]
  by_cases h : ((a.length : Nat) : Int) ≤ 100
  · rw [decide_eq_true h]
    simp [polyChord_eq, refChord_eq, awake_true09, law09_PolyChords_k1]
  · rw [decide_eq_false h]
    simp only [Bool.not_false, cond_true, awake_true09, Option.bind_some]
end Saw
end Go.SL

namespace Go.SL
namespace Saw

def lin (al be c : Int) (p : Point) : Int := al * p.X + be * p.Y + c
theorem lin_id (al be c : Int) (p q : Point) (X y : Int) : (q.Y - p.Y) * lin al be c ⟨X, y⟩ = (q.Y - y) * lin al be c p + (y - p.Y) * lin al be c q - al * cross p q ⟨X, y⟩ := by unfold lin cross; grind
theorem cross_lin (u v p : Point) : cross u v p = lin (-(v.Y - u.Y)) (v.X - u.X) (u.X * (v.Y - u.Y) - (v.X - u.X) * u.Y) p := by unfold lin cross; grind
theorem lin_up_nn {al be c : Int} {p q : Point} {X y : Int} (h : spU p q y) (hp : 0 ≤ lin al be c p) (hq : 0 ≤ lin al be c q) (ha : al ≤ 0) (hx : 0 ≤ cross p q ⟨X, y⟩) : 0 ≤ lin al be c ⟨X, y⟩ := by
  obtain ⟨h1, h2, h3⟩ := h
  refine Classical.byContradiction fun hn => ?_
  have e := lin_id al be c p q X y
  have a1 := Int.mul_nonneg (show 0 ≤ q.Y - y by omega) hp
  have a2 := Int.mul_nonneg (show 0 ≤ y - p.Y by omega) hq
  have a3 := Int.mul_nonneg (show 0 ≤ -al by omega) hx
  have a4 := Int.mul_pos (show 0 < q.Y - p.Y by omega) (show 0 < -lin al be c ⟨X, y⟩ by omega)
  rw [Int.mul_neg] at a4
  rw [Int.neg_mul] at a3
  omega
theorem lin_dn_nn {al be c : Int} {p q : Point} {X y : Int} (h : spD p q y) (hp : 0 ≤ lin al be c p) (hq : 0 ≤ lin al be c q) (ha : 0 ≤ al) (hx : 0 ≤ cross p q ⟨X, y⟩) : 0 ≤ lin al be c ⟨X, y⟩ := by
  obtain ⟨h1, h2, h3⟩ := h
  refine Classical.byContradiction fun hn => ?_
  have e := lin_id al be c p q X y
  have a1 := Int.mul_nonneg (show 0 ≤ -(q.Y - y) by omega) hp
  have a2 := Int.mul_nonneg (show 0 ≤ -(y - p.Y) by omega) hq
  have a3 := Int.mul_nonneg ha hx
  have a4 := Int.mul_pos (show 0 < -(q.Y - p.Y) by omega) (show 0 < -lin al be c ⟨X, y⟩ by omega)
  rw [Int.neg_mul_neg] at a4
  rw [Int.neg_mul] at a1 a2
  omega
theorem lin_two {al be c : Int} {p q p' q' : Point} {X y : Int} (h : spU p q y) (h' : spD p' q' y) (hp : 0 ≤ lin al be c p) (hq : 0 ≤ lin al be c q) (hp' : 0 ≤ lin al be c p') (hq' : 0 ≤ lin al be c q')
    (hx : 0 ≤ cross p q ⟨X, y⟩) (hx' : 0 ≤ cross p' q' ⟨X, y⟩) : 0 ≤ lin al be c ⟨X, y⟩ := by
  by_cases ha : al ≤ 0
  · exact lin_up_nn h hp hq ha hx
  · exact lin_dn_nn h' hp' hq' (by omega) hx'
theorem lin_nonneg {H : List Point} (hc : Cvx H) {X y : Int} (hin : inH H X y) {al be c : Int} (h : ∀ p ∈ H, 0 ≤ lin al be c p) : 0 ≤ lin al be c ⟨X, y⟩ := by
  have hn := hc.n3
  have hne : H ≠ [] := fun e => by rw [e] at hn; simp at hn
  have hb := bounds_YB hne
  have hy := in_YB hc hb hin
  obtain ⟨p, hp, ep⟩ := hb.lo
  obtain ⟨q, hq, eq⟩ := hb.hi
  have mq : ∀ j, Eq' H j ∈ H := fun j => getD_mem' (Nat.mod_lt _ (by omega))
  have mp : ∀ j, j < H.length → Ep H j ∈ H := fun j hj => getD_mem' hj
  obtain ⟨u, hu, su⟩ := span_up hc hp hq (show p.Y ≤ y by omega) (show y ≤ q.Y by omega)
  obtain ⟨d, hd, sd⟩ := span_dn hc hp hq (show p.Y ≤ y by omega) (show y ≤ q.Y by omega)
  exact lin_two su sd (h _ (mp u hu)) (h _ (mq u)) (h _ (mp d hd)) (h _ (mq d)) (hin u hu) (hin d hd)
theorem lin_pos {H : List Point} (hc : Cvx H) {X y : Int} (hin : inH H X y) {al be c : Int} (h : ∀ p ∈ H, 0 < lin al be c p) : 0 < lin al be c ⟨X, y⟩ := by
  have e : ∀ p, lin al be (c - 1) p = lin al be c p - 1 := fun p => by unfold lin; omega
  have := lin_nonneg hc hin (al := al) (be := be) (c := c - 1) (fun p hp => by rw [e]; have := h p hp; omega)
  rw [e] at this
  omega
theorem in_left {H : List Point} (hc : Cvx H) {X y : Int} (hin : inH H X y) {u v : Point} (h : ∀ p ∈ H, 0 ≤ cross u v p) : 0 ≤ cross u v ⟨X, y⟩ := by
  rw [cross_lin]
  exact lin_nonneg hc hin (fun p hp => by rw [← cross_lin]; exact h p hp)
/-- The region of the hull of some of the points lies in that of all. -/
theorem in_more {a b : List Point} (ha : hull a ≠ []) (hs : ∀ p ∈ a, p ∈ b) {X y : Int} (h : inH (hull a) X y) : inH (hull b) X y := by
  intro j hj
  exact in_left (hull_cvx ha) h (fun p hp => hull_lf hj (hs p (hull_mem hp)))
/-- Between two heights. -/
theorem in_between {H : List Point} {X y1 y2 y : Int} (h1 : inH H X y1) (h2 : inH H X y2) (hy1 : y1 ≤ y) (hy2 : y ≤ y2) : inH H X y := by
  intro j hj
  have k1 := h1 j hj
  have k2 := h2 j hj
  generalize Ep H j = u at *
  generalize Eq' H j = v at *
  unfold cross at *
  simp only at *
  by_cases hs : 0 ≤ v.X - u.X
  · have := Int.mul_nonneg hs (show 0 ≤ y - y1 by omega)
    have e : (v.X - u.X) * (y - u.Y) = (v.X - u.X) * (y - y1) + (v.X - u.X) * (y1 - u.Y) := by grind
    omega
  · have := Int.mul_nonneg (show 0 ≤ -(v.X - u.X) by omega) (show 0 ≤ y2 - y by omega)
    have e : (v.X - u.X) * (y - u.Y) = -(v.X - u.X) * (y2 - y) + (v.X - u.X) * (y2 - u.Y) := by grind
    omega

/-- What a chord is. -/
theorem chord_spec (a : List Point) (lo hi : Int) : (chord a lo hi = ⟨0, 0⟩ ∧ ∀ X, hull a ≠ [] → lo < hi → ¬ (inH (hull a) X lo ∧ inH (hull a) X hi ∧ inH (hull a) (X + 1) lo ∧ inH (hull a) (X + 1) hi)) ∨
    (hull a ≠ [] ∧ lo < hi ∧ (chord a lo hi).A < (chord a lo hi).B ∧ ∀ X, ((chord a lo hi).A ≤ X ∧ X ≤ (chord a lo hi).B) ↔ (inH (hull a) X lo ∧ inH (hull a) X hi)) := by
  by_cases h0 : hull a = []
  · exact .inl ⟨by unfold chord; rw [if_pos (.inl h0)], fun X h => absurd h0 h⟩
  have hb := bounds_YB h0
  have hc := hull_cvx h0
  by_cases h1 : hi ≤ lo
  · exact .inl ⟨by unfold chord; rw [if_pos (.inr (.inl h1))], fun X _ h => by omega⟩
  by_cases h2 : lo < (bounds (hull a)).Y.A
  · exact .inl ⟨by unfold chord; rw [if_pos (.inr (.inr (.inl h2)))], fun X _ _ h => by have := (in_YB hc hb h.1).1; omega⟩
  by_cases h3 : (bounds (hull a)).Y.B < hi
  · exact .inl ⟨by unfold chord; rw [if_pos (.inr (.inr (.inr h3)))], fun X _ _ h => by have := (in_YB hc hb h.2.1).2; omega⟩
  have i1 : ∀ X, X ≤ imin (atS (hull a) lo).2 (atS (hull a) hi).2 ↔ X ≤ (atS (hull a) lo).2 ∧ X ≤ (atS (hull a) hi).2 := fun X => imin_le
  have i2 : ∀ X, imax (atS (hull a) lo).1 (atS (hull a) hi).1 ≤ X ↔ (atS (hull a) lo).1 ≤ X ∧ (atS (hull a) hi).1 ≤ X := fun X => imax_le
  have k1 := at_iff hc hb (y := lo) (by omega) (by omega)
  have k2 := at_iff hc hb (y := hi) (by omega) (by omega)
  have key : ∀ X, (imax (atS (hull a) lo).1 (atS (hull a) hi).1 ≤ X ∧ X ≤ imin (atS (hull a) lo).2 (atS (hull a) hi).2) ↔ (inH (hull a) X lo ∧ inH (hull a) X hi) := fun X => by
    rw [i1, i2, ← k1 X, ← k2 X]
    constructor
    · rintro ⟨⟨a1, a2⟩, a3, a4⟩; exact ⟨⟨a1, a3⟩, a2, a4⟩
    · rintro ⟨⟨a1, a2⟩, a3, a4⟩; exact ⟨⟨a1, a3⟩, a2, a4⟩
  by_cases h4 : imin (atS (hull a) lo).2 (atS (hull a) hi).2 ≤ imax (atS (hull a) lo).1 (atS (hull a) hi).1
  · refine .inl ⟨by unfold chord; rw [if_neg (by simp only [h0, false_or]; omega), if_pos h4], fun X _ _ h => ?_⟩
    have q1 := (key X).2 ⟨h.1, h.2.1⟩
    have q2 := (key (X + 1)).2 h.2.2
    omega
  · have e : chord a lo hi = ⟨imax (atS (hull a) lo).1 (atS (hull a) hi).1, imin (atS (hull a) lo).2 (atS (hull a) hi).2⟩ := by
      unfold chord; rw [if_neg (by simp only [h0, false_or]; omega), if_neg h4]
    rw [e]
    exact .inr ⟨h0, by omega, by simp only; omega, key⟩
end Saw
end Go.SL

namespace Go.SL
namespace Saw

theorem par_contra {dx dy ex ey al be : Int} (hd : pos dx dy) (he : pos ex ey) (ha : 0 < al) (hb : 0 ≤ be) (h1 : al * ex = -(be * dx)) (h2 : al * ey = -(be * dy)) : False := by
  unfold pos at hd he
  rcases he with he | ⟨he, he'⟩
  · have a1 := Int.mul_pos ha he
    have a2 := Int.mul_nonneg hb (show 0 ≤ dx by omega)
    omega
  · have a1 := Int.mul_pos ha he'
    rw [he, Int.mul_zero] at h1
    rcases hd with hd | ⟨hd, hd'⟩
    · have b0 : be = 0 := by
        rcases Int.mul_eq_zero.1 (show be * dx = 0 by omega) with h | h
        · exact h
        · omega
      rw [b0] at h2
      simp at h2
      omega
    · have a2 := Int.mul_nonneg hb (show 0 ≤ dy by omega)
      omega
theorem leftF_at {pts : List Point} {u v : Point} : ∀ {l r : List Point}, LeftF pts (l ++ u :: v :: r) → ∀ q ∈ pts, 0 ≤ cross u v q
  | [], r, h => h.1
  | [_], r, h => h.2.1
  | _ :: b :: l, r, h => leftF_at (l := b :: l) h.2
theorem turnsF_at {u v w : Point} : ∀ {l r : List Point}, TurnsF (l ++ u :: v :: w :: r) → 0 < cross u v w
  | [], r, h => h.1
  | [_], r, h => h.2.1
  | [_, _], r, h => h.2.2.1
  | _ :: b :: c :: l, r, h => turnsF_at (l := b :: c :: l) h.2
theorem cross_swap (c p q : Point) : cross c q p = -cross c p q := by unfold cross; grind
/-- A next corner nearer by on the same line can't be. -/
theorem uniq_step {c p1 p2 p3 : Point} (h1 : pLt c p1) (h2 : pLt p1 p2) (h0 : cross c p1 p2 = 0) (h3 : 0 < cross c p1 p3) (h4 : 0 ≤ cross p1 p3 p2) : False := by
  have k1 := lt_pos h1
  have k2 := lt_pos h2
  refine par_contra k1 k2 h3 h4 ?_ ?_
  · have : cross c p1 p3 * (p2.X - p1.X) + cross p1 p3 p2 * (p1.X - c.X) = cross c p1 p2 * (p3.X - p1.X) := by unfold cross; grind
    rw [h0] at this
    omega
  · have : cross c p1 p3 * (p2.Y - p1.Y) + cross p1 p3 p2 * (p1.Y - c.Y) = cross c p1 p2 * (p3.Y - p1.Y) := by unfold cross; grind
    rw [h0] at this
    omega
theorem asc_last {c M : Point} : ∀ {t : List Point}, StrictS (c :: t) → (c :: t).getLast? = some M → c = M ∧ t = [] ∨ pLt c M
  | [], _, h => .inl ⟨by simpa using h, rfl⟩
  | a :: t, hs, h => by
    have h1 := (List.pairwise_cons.1 hs).1
    refine .inr (h1 M ?_)
    rw [List.getLast?_cons_cons] at h
    exact List.mem_of_getLast? h
theorem chain_unique {pts : List Point} {M : Point} : ∀ (t1 t2 : List Point) (c : Point), LeftF pts (c :: t1) → LeftF pts (c :: t2) → TurnsF (c :: t1) → TurnsF (c :: t2) → StrictS (c :: t1) → StrictS (c :: t2) → (∀ p ∈ t1, p ∈ pts) → (∀ p ∈ t2, p ∈ pts) →
    (c :: t1).getLast? = some M → (c :: t2).getLast? = some M → t1 = t2
  | [], t2, c, _, _, _, _, _, s2, _, _, g1, g2 => by
    have : c = M := by simpa using g1
    rcases asc_last s2 g2 with ⟨_, e⟩ | h
    · exact e.symm
    · rw [this] at h; exact absurd h (pLt_irrefl _)
  | p1 :: r1, [], c, _, _, _, _, s1, _, _, _, g1, g2 => by
    have : c = M := by simpa using g2
    rcases asc_last s1 g1 with ⟨_, e⟩ | h
    · exact e
    · rw [this] at h; exact absurd h (pLt_irrefl _)
  | p1 :: r1, p2 :: r2, c, l1, l2, t1, t2, s1, s2, m1, m2, g1, g2 => by
    have a1 := l1.1 p2 (m2 p2 (by simp))
    have a2 := l2.1 p1 (m1 p1 (by simp))
    rw [cross_swap] at a2
    have e0 : cross c p1 p2 = 0 := by omega
    rw [List.getLast?_cons_cons] at g1 g2
    have k1 := (List.pairwise_cons.1 s1).2
    have k2 := (List.pairwise_cons.1 s2).2
    have c1 := (List.pairwise_cons.1 s1).1 p1 (by simp)
    have c2 := (List.pairwise_cons.1 s2).1 p2 (by simp)
    have contra : ∀ {q1 q2 : Point} {w1 w2 : List Point}, pLt c q1 → pLt q1 q2 → cross c q1 q2 = 0 → TurnsF (c :: q1 :: w1) → LeftF pts (q1 :: w1) → q2 ∈ pts → StrictS (q1 :: w1) → StrictS (q2 :: w2) → (q1 :: w1).getLast? = some M → (q2 :: w2).getLast? = some M → False := by
      intro q1 q2 w1 w2 b1 b2 b3 b4 b5 b6 b7 b8 b9 b10
      cases w1 with
      | nil =>
        have : q1 = M := by simpa using b9
        rcases asc_last b8 b10 with ⟨e, _⟩ | h
        · rw [this, e] at b2; exact pLt_irrefl _ b2
        · rw [this] at b2; exact pLt_irrefl _ (pLt_trans b2 h)
      | cons q3 w => exact uniq_step b1 b2 b3 b4.1 (b5.1 q2 b6)
    by_cases e : p1 = p2
    · subst e
      rw [chain_unique r1 r2 p1 l1.2 l2.2 (by cases r1 with | nil => trivial | cons _ _ => exact t1.2) (by cases r2 with | nil => trivial | cons _ _ => exact t2.2) k1 k2 (fun p hp => m1 p (List.mem_cons_of_mem _ hp)) (fun p hp => m2 p (List.mem_cons_of_mem _ hp)) g1 g2]
    · rcases pLt_tri p1 p2 with h | h | h
      · exact (contra c1 h e0 t1 l1.2 (m2 p2 (by simp)) k1 k2 g1 g2).elim
      · exact absurd h e
      · exact (contra c2 h (by rw [cross_swap, e0]; rfl) t2 l2.2 (m1 p1 (by simp)) k2 k1 g2 g1).elim
end Saw
end Go.SL
