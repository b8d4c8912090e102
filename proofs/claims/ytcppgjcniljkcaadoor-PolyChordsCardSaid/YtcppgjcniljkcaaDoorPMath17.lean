/- Poly's plain mathematics, part 17: what the loops' results are. -/
import Derived.Test.YtcppgjcniljkcaaDoorPMath16
set_option linter.unusedVariables false
set_option linter.unusedSimpArgs false
namespace Go.SL
namespace Saw

abbrev spU (p q : Point) (y : Int) : Prop := p.Y < q.Y ∧ p.Y ≤ y ∧ y ≤ q.Y
abbrev spD (p q : Point) (y : Int) : Prop := q.Y < p.Y ∧ q.Y ≤ y ∧ y ≤ p.Y
theorem pS_up (H : List Point) (y : Int) : ∀ (m x : Nat) (r : Int × Int), ((pS H y x m r).2 = r.2 ∧ ∀ j, x ≤ j → j < x + m → ¬ spU (H.getD j default) (H.getD ((j + 1) % H.length) default) y) ∨ ∃ j, x ≤ j ∧ j < x + m ∧ spU (H.getD j default) (H.getD ((j + 1) % H.length) default) y ∧ (pS H y x m r).2 = upB (H.getD j default) (H.getD ((j + 1) % H.length) default) y
  | 0, x, r => .inl ⟨rfl, fun j h1 h2 => by omega⟩
  | m + 1, x, r => by
    unfold pS
    rcases pS_up H y m (x + 1) (pstep (H.getD x default) (H.getD ((x + 1) % H.length) default) y r) with ⟨h1, h2⟩ | ⟨j, h1, h2, h3, h4⟩
    · by_cases hs : spU (H.getD x default) (H.getD ((x + 1) % H.length) default) y
      · refine .inr ⟨x, Nat.le_refl _, by omega, hs, ?_⟩
        rw [h1]; unfold pstep; rw [if_pos hs]
      · refine .inl ⟨?_, fun j hj1 hj2 => ?_⟩
        · rw [h1]; unfold pstep; rw [if_neg hs]; split <;> rfl
        · by_cases hjx : j = x
          · subst hjx; exact hs
          · exact h2 j (by omega) (by omega)
    · exact .inr ⟨j, by omega, by omega, h3, h4⟩
theorem pS_dn (H : List Point) (y : Int) : ∀ (m x : Nat) (r : Int × Int), ((pS H y x m r).1 = r.1 ∧ ∀ j, x ≤ j → j < x + m → ¬ spD (H.getD j default) (H.getD ((j + 1) % H.length) default) y) ∨ ∃ j, x ≤ j ∧ j < x + m ∧ spD (H.getD j default) (H.getD ((j + 1) % H.length) default) y ∧ (pS H y x m r).1 = dnB (H.getD j default) (H.getD ((j + 1) % H.length) default) y
  | 0, x, r => .inl ⟨rfl, fun j h1 h2 => by omega⟩
  | m + 1, x, r => by
    unfold pS
    rcases pS_dn H y m (x + 1) (pstep (H.getD x default) (H.getD ((x + 1) % H.length) default) y r) with ⟨h1, h2⟩ | ⟨j, h1, h2, h3, h4⟩
    · by_cases hs : spD (H.getD x default) (H.getD ((x + 1) % H.length) default) y
      · refine .inr ⟨x, Nat.le_refl _, by omega, hs, ?_⟩
        rw [h1]; unfold pstep; rw [if_neg (by omega), if_pos hs]
      · refine .inl ⟨?_, fun j hj1 hj2 => ?_⟩
        · rw [h1]; unfold pstep; rw [if_neg hs]; split <;> rfl
        · by_cases hjx : j = x
          · subst hjx; exact hs
          · exact h2 j (by omega) (by omega)
    · exact .inr ⟨j, by omega, by omega, h3, h4⟩
end Saw
end Go.SL
