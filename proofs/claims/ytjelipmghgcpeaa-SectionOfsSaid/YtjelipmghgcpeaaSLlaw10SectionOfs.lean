import Derived.Test.YtjelipmghgcpeaaSBase
import Derived.Test.YtjelipmghgcpeaaSLlaw10awake
import Derived.Test.YtjelipmghgcpeaaSFa3
import Derived.Test.YtjelipmghgcpeaaSFa8
import Derived.Test.YtjelipmghgcpeaaSLlaw10same
set_option linter.unusedVariables false
set_option linter.unusedSimpArgs false
namespace Go.SL
namespace Saw
open Go.Proofs
set_option maxHeartbeats 4000000

def law10_SectionOfs_x (r : Bool) : V := vb r

def law10_SectionOfs_o (r : Bool) : List (Nat × (Nat × O)) := []

theorem law10_SectionOfs_f (r : Bool) : Frozen (law10_SectionOfs_o r) := by
  intro i k o h
  unfold law10_SectionOfs_o at h
  cases h

def law10_SectionOfs_k1_S (x15 : Bool) : St :=
  ⟨[(2, vb x15)], []⟩

set_option maxRecDepth 100000 in
theorem law10_SectionOfs_ok (a1 : List Point) (r : Bool) (hm : law10_SectionOfs a1 = some r) : CtX Try.prog globs 4 0 0 [.one (tl e_Point default a1)] [] (law10_SectionOfs_x r) (law10_SectionOfs_o r) := by
  unfold law10_SectionOfs at hm
  refine CtX_of_E (fn := Try.f4) (c := nd Try.f4 1) (nt := 32) (by kernel_rfl) (by kernel_rfl) (by kernel_rfl) (by kernel_rfl) fun E => ?_
  refine R_sq Try.f4 2 3 (by kernel_rfl) ?_
  refine R_rn Try.f4 2 0 [] [] 0 ⟨[(0, vc (tl e_Point default a1))], []⟩ o0 (by kernel_rfl) (by kernel_rfl) ?_
  refine R_sq Try.f4 6 7 (by kernel_rfl) ?_
  refine R_sq Try.f4 12 13 (by kernel_rfl) ?_
  refine R_rn Try.f4 12 1 [] [] 0 ⟨[(0, vc (tl e_Point default a1)), (9, vb (decide (((a1.length : Nat) : Int) > 40)))], []⟩ o0 (by kernel_rfl) (by kernel_rfl) ?_
  refine R_cn Try.f4 (.tmp 9) 26 27 (by kernel_rfl) (decide (((a1.length : Nat) : Int) > 40)) (by kernel_rfl) (fun b2 => ?_) (fun b2 => ?_)
  · replace hm := bif_t b2 hm
    refine R_sq Try.f4 52 53 (by kernel_rfl) ?_
    obtain ⟨v3, h4, hm⟩ := bind_s hm
    refine R_rn Try.f4 52 2 [(0, dex (cen [] [] 0 0 (law10_awake_x v3) (law10_awake_o v3) [] []))] [] 0 ⟨[(2, vb v3)], []⟩ (o1 (callS (K := (kx E 32 0)) ⟨[], []⟩ (opAt (rg Try.f4 52) 0) [] [] 0 o0 rfl (law10_awake_ok v3 h4) (.inl rfl) (by kernel_rfl))) (by kernel_rfl) (by kernel_rfl) ?_
    obtain rfl := Option.some.inj hm
    refine R_ret (by kernel_rfl) ?_
    exact ret_mk (by kernel_rfl) (by kernel_rfl)
  · replace hm := bif_f b2 hm
    refine R_skip (by kernel_rfl) ?_
    refine R_sq Try.f4 14 15 (by kernel_rfl) ?_
    obtain ⟨v5, h6, hm⟩ := bind_s hm
    refine R_rn Try.f4 14 3 [(1, dex (cen [] [] 0 0 (section_Of_x v5) (section_Of_o v5) [12] []))] [] 0 ⟨[(0, vc (tl e_Point default a1)), (3, vp 1 0), (4, vi v5.2)], [(0, ro 0 35 2 v5.1.Rows.length (rf e_Span v5.1.Rows)), (1, bx 24 [ci v5.1.Low, .own 0 0 2 v5.1.Rows.length])]⟩ (o1 (callS (K := (kx E 32 0)) ⟨[(12, vc (tl e_Point default a1))], []⟩ (opAt (rg Try.f4 14) 1) [] [] 0 o0 rfl (section_Of_ok a1 v5 h6) (.inl rfl) (by kernel_rfl))) (by kernel_rfl) (by kernel_rfl) ?_
    refine R_sq Try.f4 30 31 (by kernel_rfl) ?_
    obtain ⟨v7, h8, hm⟩ := bind_s hm
    refine R_rn Try.f4 30 4 [(1, dex (cen [] [] 2 0 (ref10_Of_x v7) (ref10_Of_o v7) [17] []))] [] 2 ⟨[(3, vp 1 0), (4, vi v5.2), (5, vp 3 0), (6, vi v7.2)], [(0, ro 0 35 2 v5.1.Rows.length (rf e_Span v5.1.Rows)), (1, bx 24 [ci v5.1.Low, .own 0 0 2 v5.1.Rows.length]), (2, ro 0 35 2 v7.1.Rows.length (rf e_Span v7.1.Rows)), (3, bx 24 [ci v7.1.Low, .own 2 0 2 v7.1.Rows.length])]⟩ (o1 (callS (K := (kx E 32 0)) ⟨[(17, vc (tl e_Point default a1))], []⟩ (opAt (rg Try.f4 30) 1) [] [] 2 o0 rfl (ref10_Of_ok a1 v7 h8) (.inl rfl) (by kernel_rfl))) (by kernel_rfl) (by kernel_rfl) ?_
    refine R_join (ι := Bool) (nd Try.f4 62) (nd Try.f4 63) (by kernel_rfl) (fun p => law10_SectionOfs_k1_S p) (fun p => law10_SectionOfs_k1 p = some r) ?_ ?_
    · rintro x15 hm
      show H _ (law10_SectionOfs_k1_S x15) (nd Try.f4 63) _
      obtain rfl := Option.some.inj hm
      refine R_ret (by kernel_rfl) ?_
      exact ret_mk (by kernel_rfl) (by kernel_rfl)
    · obtain ⟨v9, h10, hm⟩ := bind_s hm
      rcases Bool.eq_false_or_eq_true v9 with b11 | b11
      · replace hm := bif_t b11 hm
        rcases Bool.eq_false_or_eq_true (v5.2 == v7.2) with b12 | b12
        · replace hm := bif_t b12 hm
          obtain ⟨v13, h14, hm⟩ := bind_s hm
          refine R_rn Try.f4 62 5 [(2, dex (cen [] [] 4 0 (law10_same_x v9) (law10_same_o v9) [21, 22] [0, 2])), (3, dfx true), (8, dfx true), (9, dex (cen [] [] 4 0 (law10_awake_x v13) (law10_awake_o v13) [29] []))] [] 4 ⟨[(2, vb v13)], []⟩ (o1 (And.intro (callS (K := (kx E 32 0)) (b := false) ⟨[(21, va [ci v5.1.Low, .own 0 0 2 v5.1.Rows.length]), (22, va [ci v7.1.Low, .own 2 0 2 v7.1.Rows.length])], [(0, ro 0 35 2 v5.1.Rows.length (rf e_Span v5.1.Rows)), (2, ro 0 35 2 v7.1.Rows.length (rf e_Span v7.1.Rows))]⟩ (opAt (rg Try.f4 62) 2) [] [] 4 (o1 (And.intro (Nat.le_refl v5.1.Rows.length) (Nat.le_refl v7.1.Rows.length))) rfl (law10_same_ok (Section.mk v5.1.Low v5.1.Rows) (Section.mk v7.1.Low v7.1.Rows) v9 h10) (.inr ⟨(by kernel_rfl), law10_same_f v9⟩) (by kernel_rfl)) (And.intro b11 (And.intro b12 (callS (K := (kx E 32 0)) ⟨[(29, vb true)], []⟩ (opAt (rg Try.f4 62) 9) [] [] 4 o0 rfl (law10_awake_ok v13 h14) (.inl rfl) (by kernel_rfl)))))) (by kernel_rfl) (by kernel_rfl) ?_
          exact J_mk (v13) hm (by kernel_rfl) (by kernel_rfl)
        · replace hm := bif_f b12 hm
          refine R_rn Try.f4 62 5 [(2, dex (cen [] [] 4 0 (law10_same_x v9) (law10_same_o v9) [21, 22] [0, 2])), (3, dfx true), (8, dfx false)] [] 4 ⟨[(2, vb false)], []⟩ (o1 (And.intro (callS (K := (kx E 32 0)) (b := false) ⟨[(21, va [ci v5.1.Low, .own 0 0 2 v5.1.Rows.length]), (22, va [ci v7.1.Low, .own 2 0 2 v7.1.Rows.length])], [(0, ro 0 35 2 v5.1.Rows.length (rf e_Span v5.1.Rows)), (2, ro 0 35 2 v7.1.Rows.length (rf e_Span v7.1.Rows))]⟩ (opAt (rg Try.f4 62) 2) [] [] 4 (o1 (And.intro (Nat.le_refl v5.1.Rows.length) (Nat.le_refl v7.1.Rows.length))) rfl (law10_same_ok (Section.mk v5.1.Low v5.1.Rows) (Section.mk v7.1.Low v7.1.Rows) v9 h10) (.inr ⟨(by kernel_rfl), law10_same_f v9⟩) (by kernel_rfl)) (And.intro b11 b12))) (by kernel_rfl) (by kernel_rfl) ?_
          exact J_mk (false) hm (by kernel_rfl) (by kernel_rfl)
      · replace hm := bif_f b11 hm
        refine R_rn Try.f4 62 5 [(2, dex (cen [] [] 4 0 (law10_same_x v9) (law10_same_o v9) [21, 22] [0, 2])), (3, dfx false)] [] 4 ⟨[(2, vb false)], []⟩ (o1 (And.intro (callS (K := (kx E 32 0)) (b := false) ⟨[(21, va [ci v5.1.Low, .own 0 0 2 v5.1.Rows.length]), (22, va [ci v7.1.Low, .own 2 0 2 v7.1.Rows.length])], [(0, ro 0 35 2 v5.1.Rows.length (rf e_Span v5.1.Rows)), (2, ro 0 35 2 v7.1.Rows.length (rf e_Span v7.1.Rows))]⟩ (opAt (rg Try.f4 62) 2) [] [] 4 (o1 (And.intro (Nat.le_refl v5.1.Rows.length) (Nat.le_refl v7.1.Rows.length))) rfl (law10_same_ok (Section.mk v5.1.Low v5.1.Rows) (Section.mk v7.1.Low v7.1.Rows) v9 h10) (.inr ⟨(by kernel_rfl), law10_same_f v9⟩) (by kernel_rfl)) b11)) (by kernel_rfl) (by kernel_rfl) ?_
        exact J_mk (false) hm (by kernel_rfl) (by kernel_rfl)

end Saw
end Go.SL
