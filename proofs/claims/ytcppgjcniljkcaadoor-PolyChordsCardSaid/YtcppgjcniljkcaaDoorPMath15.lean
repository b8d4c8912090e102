/- Poly's plain mathematics, part 15: what both loops compute at a height. -/
import Derived.Test.YtcppgjcniljkcaaDoorPMath14
set_option linter.unusedVariables false
set_option linter.unusedSimpArgs false
namespace Go.SL
namespace Saw

theorem num_b {p q : Point} {y : Int} (hp : rng p) (hq : rng q) (hy : -600 ≤ y ∧ y ≤ 600) : -1440000 ≤ (q.X - p.X) * (y - p.Y) ∧ (q.X - p.X) * (y - p.Y) ≤ 1440000 := by
  obtain ⟨⟨p1, p2⟩, p3, p4⟩ := hp
  obtain ⟨⟨q1, q2⟩, q3, q4⟩ := hq
  exact mul_bound (m := 1200) (n := 1200) (by omega) (by omega) (by omega) (by omega) (by decide) (by decide)
theorem across_loop (H : List Point) (y : Int) (hr : ∀ p ∈ H, rng p) (hy : -600 ≤ y ∧ y ≤ 600) (hl : H.length ≤ 1000000) : ∀ (m n x : Nat) (lo hi : Int), x + m = H.length → m < n → ref09_across_L1 H y n lo hi (x : Int) = some (rS H y x m (lo, hi))
  | _, 0, x, _, _, _, hn => by omega
  | 0, n + 1, x, lo, hi, hx, _ => by
    unfold ref09_across_L1 rS
    rw [lt_f (by omega)]
    rfl
  | m + 1, n + 1, x, lo, hi, hx, hn => by
    have hlen : 0 < H.length := by omega
    have hyy : (x + 1) % H.length < H.length := Nat.mod_lt _ hlen
    have hnx := nxt_eq hlen (show x < 4611686018427387904 by omega)
    obtain ⟨p, hpx⟩ : ∃ p, H.getD x default = p := ⟨_, rfl⟩
    obtain ⟨q, hqx⟩ : ∃ q, H.getD ((x + 1) % H.length) default = q := ⟨_, rfl⟩
    have hpx' : H.getD (x : Int).toNat default = p := by rw [Int.toNat_natCast]; exact hpx
    have hqx' : H.getD (Int.tmod (w64 ((x : Int) + 1)) ((H.length : Nat) : Int)).toNat default = q := by rw [hnx, Int.toNat_natCast]; exact hqx
    have hp : rng p := by rw [← hpx]; exact hr _ (getD_mem' (by omega))
    have hq : rng q := by rw [← hqx]; exact hr _ (getD_mem' hyy)
    have ih := fun lo hi => across_loop H y hr hy hl m n (x + 1) lo hi (by omega) (by omega)
    have hi' : inb (Int.tmod (w64 ((x : Int) + 1)) ((H.length : Nat) : Int)) H.length = true := by rw [hnx]; exact inb_t (by omega) (by omega)
    have hinc : w64 ((x : Int) + 1) = ((x + 1 : Nat) : Int) := inc_eq (by omega)
    have nb := num_b hp hq hy
    have hp' := hp
    have hq' := hq
    obtain ⟨⟨p1, p2⟩, p3, p4⟩ := hp'
    obtain ⟨⟨q1, q2⟩, q3, q4⟩ := hq'
    unfold ref09_across_L1 rS
    rw [lt_t (by omega), inb_t (i := (x : Int)) (by omega) (by omega), nz_t (by omega), hi', hpx', hqx', hpx, hqx]
    simp only [cond_true]
    rw [w64_id (n := q.Y - p.Y) (by omega) (by omega), w64_id (n := q.X - p.X) (by omega) (by omega), w64_id (n := y - p.Y) (by omega) (by omega), w64_id (n := (q.X - p.X) * (y - p.Y)) (by omega) (by omega)]
    unfold rstep ref09_across_k2
    by_cases h1 : p.Y < q.Y
    · have eb := ediv_b (show 0 < q.Y - p.Y by omega) nb.1 nb.2
      rw [decide_eq_true (show q.Y - p.Y > 0 by omega), if_pos h1, ref_floor_eq _ _ (by omega) (by omega) (by omega) (by omega)]
      simp only [cond_true, Option.bind_some]
      rw [w64_id (n := p.X + _) (by omega) (by omega), hinc, ih]
      rfl
    · rw [decide_eq_false (show ¬ q.Y - p.Y > 0 by omega), if_neg h1]
      by_cases h2 : q.Y < p.Y
      · have eb := ediv_b (show 0 < p.Y - q.Y by omega) nb.1 nb.2
        have e5 : w64 (0 - (q.Y - p.Y)) = p.Y - q.Y := (w64_id (n := 0 - (q.Y - p.Y)) (by omega) (by omega)).trans (by omega)
        rw [decide_eq_true (show q.Y - p.Y < 0 by omega), if_pos h2, e5, ref_floor_eq _ (p.Y - q.Y) (by omega) (by omega) (by omega) (by omega)]
        simp only [cond_true, cond_false, Option.bind_some]
        rw [w64_id (n := p.X - _) (by omega) (by omega), hinc, ih]
        rfl
      · rw [decide_eq_false (show ¬ q.Y - p.Y < 0 by omega), if_neg h2]
        simp only [cond_false]
        by_cases h3 : (q.X - p.X) * (y - p.Y) < 0
        · rw [decide_eq_true h3, if_pos h3]; rfl
        · rw [decide_eq_false h3, if_neg h3, hinc]
          simp only [cond_false]
          exact ih lo hi
end Saw
end Go.SL
