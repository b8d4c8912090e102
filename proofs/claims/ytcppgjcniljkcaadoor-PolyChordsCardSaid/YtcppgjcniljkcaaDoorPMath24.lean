/- Poly's plain mathematics, part 24: at a height within the hull both loops give the same bounds. -/
import Derived.Test.YtcppgjcniljkcaaDoorPMath23
set_option linter.unusedVariables false
set_option linter.unusedSimpArgs false
namespace Go.SL
namespace Saw

theorem eq_of_le_iff {a b : Int} (h : ∀ X, X ≤ a ↔ X ≤ b) : a = b := by have h1 := (h a).1 (Int.le_refl _); have h2 := (h b).2 (Int.le_refl _); omega
theorem eq_of_ge_iff {a b : Int} (h : ∀ X, a ≤ X ↔ b ≤ X) : a = b := by have h1 := (h a).1 (Int.le_refl _); have h2 := (h b).2 (Int.le_refl _); omega
theorem both_eq {H : List Point} (hc : Cvx H) {y : Int} {a b : Point} (ha : a ∈ H) (hb : b ∈ H) (h1 : a.Y ≤ y) (h2 : y ≤ b.Y) (r : Int × Int) : rS H y 0 H.length (-600, 600) = .inr (pS H y 0 H.length r) := by
  have hn := hc.n3
  have mq : ∀ j, Eq' H j ∈ H := fun j => getD_mem' (Nat.mod_lt _ (by omega))
  have mp : ∀ j, j < H.length → Ep H j ∈ H := fun j hj => getD_mem' hj
  rcases rS_spec H y H.length 0 (-600, 600) with ⟨⟨j, _, j2, j3⟩, _⟩ | ⟨_, r', e, g1, g2⟩
  · exact absurd j3 (no_bad hc ha hb h1 h2 (by omega))
  rw [e]
  congr 1
  refine Prod.ext ?_ ?_
  · rcases pS_dn H y H.length 0 r with ⟨_, h⟩ | ⟨j, _, j2, j3, j4⟩
    · obtain ⟨j, hj, hs⟩ := span_dn hc ha hb h1 h2
      exact absurd hs (h j (by omega) (by omega))
    · have hj : j < H.length := by omega
      rw [j4]
      refine eq_of_ge_iff (fun X => ?_)
      rw [g1 X]
      refine ⟨fun h => h.2 j (by omega) j2 j3.1, fun h => ⟨Int.le_trans (dnB_ge (hc.rg _ (mp j hj)) (hc.rg _ (mq j)) j3) h, fun k k1 k2 k3 => Int.le_trans (dn_dn j3.1 j3.2.1 j3.2.2 k3 (hc.lf k (by omega) _ (mp j hj)) (hc.lf k (by omega) _ (mq j))) h⟩⟩
  · rcases pS_up H y H.length 0 r with ⟨_, h⟩ | ⟨j, _, j2, j3, j4⟩
    · obtain ⟨j, hj, hs⟩ := span_up hc ha hb h1 h2
      exact absurd hs (h j (by omega) (by omega))
    · have hj : j < H.length := by omega
      rw [j4]
      refine eq_of_le_iff (fun X => ?_)
      rw [g2 X]
      refine ⟨fun h => h.2 j (by omega) j2 j3.1, fun h => ⟨Int.le_trans h (upB_le (hc.rg _ (mp j hj)) (hc.rg _ (mq j)) j3), fun k k1 k2 k3 => Int.le_trans h (up_up j3.1 j3.2.1 j3.2.2 k3 (hc.lf k (by omega) _ (mp j hj)) (hc.lf k (by omega) _ (mq j)))⟩⟩
end Saw
end Go.SL
