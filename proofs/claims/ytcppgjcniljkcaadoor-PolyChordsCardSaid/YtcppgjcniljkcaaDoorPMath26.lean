/- Poly's plain mathematics, part 26: heights below and above. -/
import Derived.Test.YtcppgjcniljkcaaDoorPMath25
set_option linter.unusedVariables false
set_option linter.unusedSimpArgs false
namespace Go.SL
namespace Saw

/-- Somewhere the walk around comes to a value that some corner does not have. -/
theorem cyc_enter {H : List Point} (hc : Cvx H) (c : Int) (hm : ∃ p ∈ H, p.Y = c) : ∃ x, x < H.length ∧ (Ep H x).Y ≠ c ∧ (Eq' H x).Y = c := by
  refine Classical.byContradiction fun hno => ?_
  have no : ∀ x, x < H.length → (Ep H x).Y ≠ c → (Eq' H x).Y ≠ c := fun x hx h1 h2 => hno ⟨x, hx, h1, h2⟩
  have hne : ∃ p ∈ H, p.Y ≠ c := Classical.byContradiction fun h => not_flat hc c (fun p hp => Classical.byContradiction fun h' => h ⟨p, hp, h'⟩)
  obtain ⟨p, hp, hpc⟩ := hne
  obtain ⟨i, hi, e⟩ := mem_ix hp
  have := cyc_all (P := fun x => (Ep H x).Y ≠ c) hi (by rw [e]; exact hpc) (fun x hx h => no x hx h)
  obtain ⟨q, hq, hqc⟩ := hm
  obtain ⟨k, hk, e'⟩ := mem_ix hq
  exact this k hk (by rw [e']; exact hqc)
theorem nxt_ix {H : List Point} (hc : Cvx H) {x : Nat} (hx : x < H.length) : Ep H ((x + 1) % H.length) = Eq' H x ∧ Eq' H ((x + 1) % H.length) = Ep H ((x + 2) % H.length) := by
  refine ⟨rfl, ?_⟩
  show H.getD (((x + 1) % H.length + 1) % H.length) default = H.getD ((x + 2) % H.length) default
  rw [Nat.mod_add_mod]
/-- Below the lowest or above the highest corner: no X is left of all edges, or a horizontal edge refuses. -/
theorem out_none {H : List Point} (hc : Cvx H) {y : Int} (hy : (∀ p ∈ H, y < p.Y) ∨ (∀ p ∈ H, p.Y < y)) (hnb : ∀ j, j < H.length → ¬ bad (Ep H j) (Eq' H j) y) (X : Int) : ¬ ∀ j, j < H.length → 0 ≤ cross (Ep H j) (Eq' H j) ⟨X, y⟩ := by
  intro hall
  have hn := hc.n3
  have mp : ∀ j, j < H.length → Ep H j ∈ H := fun j hj => getD_mem' hj
  -- an extreme corner
  have ext : ∃ c, (∃ p ∈ H, p.Y = c) ∧ ((y < c ∧ ∀ p ∈ H, c ≤ p.Y) ∨ (c < y ∧ ∀ p ∈ H, p.Y ≤ c)) := by
    have gen : ∀ l : List Point, l ≠ [] → (∃ p ∈ l, ∀ q ∈ l, p.Y ≤ q.Y) ∧ (∃ p ∈ l, ∀ q ∈ l, q.Y ≤ p.Y) := by
      intro l
      induction l with
      | nil => intro h; exact absurd rfl h
      | cons a l ih =>
        intro _
        by_cases hl : l = []
        · subst hl; exact ⟨⟨a, by simp, by simp⟩, ⟨a, by simp, by simp⟩⟩
        · obtain ⟨⟨p, hp, h1⟩, q, hq, h2⟩ := ih hl
          constructor
          · by_cases h : a.Y ≤ p.Y
            · exact ⟨a, by simp, fun r hr => by rcases List.mem_cons.1 hr with rfl | hr; · exact Int.le_refl _
                                                · exact Int.le_trans h (h1 r hr)⟩
            · exact ⟨p, List.mem_cons_of_mem _ hp, fun r hr => by rcases List.mem_cons.1 hr with rfl | hr; · omega
                                                                  · exact h1 r hr⟩
          · by_cases h : q.Y ≤ a.Y
            · exact ⟨a, by simp, fun r hr => by rcases List.mem_cons.1 hr with rfl | hr; · exact Int.le_refl _
                                                · exact Int.le_trans (h2 r hr) h⟩
            · exact ⟨q, List.mem_cons_of_mem _ hq, fun r hr => by rcases List.mem_cons.1 hr with rfl | hr; · omega
                                                                  · exact h2 r hr⟩
    obtain ⟨⟨p, hp, h1⟩, q, hq, h2⟩ := gen H (fun e => by rw [e] at hn; simp at hn)
    rcases hy with hy | hy
    · exact ⟨p.Y, ⟨p, hp, rfl⟩, .inl ⟨hy p hp, h1⟩⟩
    · exact ⟨q.Y, ⟨q, hq, rfl⟩, .inr ⟨hy q hq, h2⟩⟩
  obtain ⟨c, hcm, hce⟩ := ext
  obtain ⟨x, hx, x1, x2⟩ := cyc_enter hc c hcm
  have hx' : (x + 1) % H.length < H.length := Nat.mod_lt _ (by omega)
  have hx2 : (x + 2) % H.length < H.length := Nat.mod_lt _ (by omega)
  obtain ⟨i1, i2⟩ := nxt_ix hc hx
  have c1 := hall x hx
  have c2 := hall _ hx'
  have nb := hnb _ hx'
  have t := hc.tn x hx
  have mu := mp x hx
  have mz := mp _ hx2
  rw [i1, i2] at c2 nb
  generalize Ep H x = u at *
  generalize Eq' H x = v at *
  generalize Ep H ((x + 2) % H.length) = z at *
  have key := out_key c1 c2 t
  rcases hce with ⟨y1, y2⟩ | ⟨y1, y2⟩
  · have yu := y2 u mu
    have yz := y2 z mz
    by_cases hz : z.Y = v.Y
    · refine nb ⟨by omega, by omega, ?_⟩
      have e : cross u v z = (u.Y - v.Y) * (z.X - v.X) := by unfold cross; rw [hz]; grind
      rw [e] at t
      have hp : 0 < z.X - v.X := by
        refine Classical.byContradiction fun h => ?_
        have := Int.mul_nonneg (show 0 ≤ u.Y - v.Y by omega) (show 0 ≤ -(z.X - v.X) by omega)
        rw [Int.mul_neg] at this
        omega
      have := Int.mul_pos hp (show 0 < v.Y - y by omega)
      have e2 : (z.X - v.X) * (y - v.Y) = -((z.X - v.X) * (v.Y - y)) := by grind
      omega
    · exact key (.inl ⟨by omega, by omega, by omega⟩)
  · have yu := y2 u mu
    have yz := y2 z mz
    by_cases hz : z.Y = v.Y
    · refine nb ⟨by omega, by omega, ?_⟩
      have e : cross u v z = (v.Y - u.Y) * (v.X - z.X) := by unfold cross; rw [hz]; grind
      rw [e] at t
      have hp : 0 < v.X - z.X := by
        refine Classical.byContradiction fun h => ?_
        have := Int.mul_nonneg (show 0 ≤ v.Y - u.Y by omega) (show 0 ≤ -(v.X - z.X) by omega)
        rw [Int.mul_neg] at this
        omega
      have := Int.mul_pos hp (show 0 < y - v.Y by omega)
      have e2 : (z.X - v.X) * (y - v.Y) = -((v.X - z.X) * (y - v.Y)) := by grind
      omega
    · exact key (.inr ⟨by omega, by omega, by omega⟩)
end Saw
end Go.SL
