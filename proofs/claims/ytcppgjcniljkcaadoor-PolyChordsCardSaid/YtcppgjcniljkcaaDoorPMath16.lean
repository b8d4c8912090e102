/- Poly's plain mathematics, part 16: the loop of the chord. -/
import Derived.Test.YtcppgjcniljkcaaDoorPMath15
set_option linter.unusedVariables false
set_option linter.unusedSimpArgs false
namespace Go.SL
namespace Saw

theorem chord_loop (H : List Point) (y : Int) (hr : ∀ p ∈ H, rng p) (hy : -600 ≤ y ∧ y ≤ 600) (hl : H.length ≤ 1000000) : ∀ (m n x : Nat) (r : Int × Int), x + m = H.length → m < n → poly_Chord_1_L1 y H n r.1 r.2 (x : Int) = some (pS H y x m r)
  | _, 0, x, _, _, hn => by omega
  | 0, n + 1, x, r, hx, _ => by
    unfold poly_Chord_1_L1 pS
    rw [lt_f (by omega)]
    rfl
  | m + 1, n + 1, x, r, hx, hn => by
    have hlen : 0 < H.length := by omega
    have hyy : (x + 1) % H.length < H.length := Nat.mod_lt _ hlen
    have hnx := nxt_eq hlen (show x < 4611686018427387904 by omega)
    obtain ⟨p, hpx⟩ : ∃ p, H.getD x default = p := ⟨_, rfl⟩
    obtain ⟨q, hqx⟩ : ∃ q, H.getD ((x + 1) % H.length) default = q := ⟨_, rfl⟩
    have hpx' : H.getD (x : Int).toNat default = p := by rw [Int.toNat_natCast]; exact hpx
    have hqx' : H.getD (Int.tmod (w64 ((x : Int) + 1)) ((H.length : Nat) : Int)).toNat default = q := by rw [hnx, Int.toNat_natCast]; exact hqx
    have hp : rng p := by rw [← hpx]; exact hr _ (getD_mem' (by omega))
    have hq : rng q := by rw [← hqx]; exact hr _ (getD_mem' hyy)
    have ih := fun r => chord_loop H y hr hy hl m n (x + 1) r (by omega) (by omega)
    have hi' : inb (Int.tmod (w64 ((x : Int) + 1)) ((H.length : Nat) : Int)) H.length = true := by rw [hnx]; exact inb_t (by omega) (by omega)
    have hinc : w64 ((x : Int) + 1) = ((x + 1 : Nat) : Int) := inc_eq (by omega)
    have nb := num_b hp hq hy
    have nb2 := num_b hq hp hy
    have hp' := hp
    have hq' := hq
    obtain ⟨⟨p1, p2⟩, p3, p4⟩ := hp'
    obtain ⟨⟨q1, q2⟩, q3, q4⟩ := hq'
    have nb3 : -1440000 ≤ (q.X - p.X) * (y - q.Y) ∧ (q.X - p.X) * (y - q.Y) ≤ 1440000 := by
      have e : (q.X - p.X) * (y - q.Y) = -((p.X - q.X) * (y - q.Y)) := by clear nb nb2; grind
      omega
    unfold poly_Chord_1_L1 pS
    rw [lt_t (by omega), inb_t (i := (x : Int)) (by omega) (by omega), nz_t (by omega), hi']
    unfold poly_Chord_1_k2 poly_Chord_1_k3 poly_Chord_1_k4
    rw [hpx', hqx', hpx, hqx]
    simp only [cond_true]
    rw [w64_id (n := q.Y - p.Y) (by omega) (by omega), w64_id (n := p.Y - q.Y) (by omega) (by omega), w64_id (n := q.X - p.X) (by omega) (by omega), w64_id (n := y - p.Y) (by omega) (by omega), w64_id (n := y - q.Y) (by omega) (by omega), w64_id (n := (q.X - p.X) * (y - p.Y)) (by omega) (by omega), w64_id (n := (q.X - p.X) * (y - q.Y)) (by omega) (by omega), hinc]
    unfold pstep
    by_cases h1 : p.Y < q.Y
    · have h1' : ¬ p.Y > q.Y := by omega
      have h1'' : ¬ q.Y < p.Y := by omega
      have eb := ediv_b (show 0 < q.Y - p.Y by omega) nb.1 nb.2
      rw [floor_eq _ (q.Y - p.Y) (by omega) (by omega) (by omega)]
      by_cases h2 : p.Y ≤ y
      · by_cases h3 : y ≤ q.Y
        · rw [if_pos ⟨h1, h2, h3⟩]
          simp only [h1, h2, h3, decide_true, cond_true, Option.bind_some]
          rw [w64_id (n := p.X + _) (by omega) (by omega)]
          exact ih (r.1, upB p q y)
        · rw [if_neg (by omega), if_neg (by omega)]
          simp only [h1, h2, h3, h1', h1'', decide_true, decide_false, cond_true, cond_false]
          exact ih r
      · rw [if_neg (by omega), if_neg (by omega)]
        simp only [h1, h2, h1', h1'', decide_true, decide_false, cond_true, cond_false]
        exact ih r
    · by_cases h2 : q.Y < p.Y
      · have h2' : p.Y > q.Y := h2
        have eb := ediv_b (show 0 < p.Y - q.Y by omega) nb3.1 nb3.2
        rw [floor_eq _ (p.Y - q.Y) (by omega) (by omega) (by omega)]
        by_cases h3 : q.Y ≤ y
        · by_cases h4 : y ≤ p.Y
          · rw [if_neg (by omega), if_pos ⟨h2, h3, h4⟩, ← dnB_eq h2 y]
            simp only [h1, h2', h3, h4, decide_true, decide_false, cond_true, cond_false, Option.bind_some]
            rw [w64_id (n := q.X - _) (by omega) (by omega)]
            exact ih (q.X - (q.X - p.X) * (y - q.Y) / (p.Y - q.Y), r.2)
          · rw [if_neg (by omega), if_neg (by omega)]
            simp only [h1, h2', h3, h4, decide_true, decide_false, cond_true, cond_false]
            exact ih r
        · rw [if_neg (by omega), if_neg (by omega)]
          simp only [h1, h2', h3, decide_true, decide_false, cond_true, cond_false]
          exact ih r
      · have h2' : ¬ p.Y > q.Y := h2
        rw [if_neg (by omega), if_neg (by omega)]
        simp only [h1, h2', decide_false, cond_false]
        exact ih r
end Saw
end Go.SL
