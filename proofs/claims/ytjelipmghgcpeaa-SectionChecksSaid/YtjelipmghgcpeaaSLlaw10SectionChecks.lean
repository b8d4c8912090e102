import Derived.Test.YtjelipmghgcpeaaSBase
import Derived.Test.YtjelipmghgcpeaaSLs
import Derived.Test.YtjelipmghgcpeaaSLlaw10awake
import Derived.Test.YtjelipmghgcpeaaSFa4
import Derived.Test.YtjelipmghgcpeaaSFa6
set_option linter.unusedVariables false
set_option linter.unusedSimpArgs false
namespace Go.SL
namespace Saw
open Go.Proofs
set_option maxHeartbeats 4000000

def law10_SectionChecks_x (r : Bool) : V := vb r

def law10_SectionChecks_o (r : Bool) : List (Nat × (Nat × O)) := []

theorem law10_SectionChecks_f (r : Bool) : Frozen (law10_SectionChecks_o r) := by
  intro i k o h
  unfold law10_SectionChecks_o at h
  cases h

def law10_SectionChecks_k1_S (x14 : Bool) : St :=
  ⟨[(2, vb x14)], []⟩

set_option maxRecDepth 100000 in
theorem law10_SectionChecks_ok (a1 : Section) (r : Bool) (hm : law10_SectionChecks a1 = some r) : CtX Try.prog globs 3 0 0 [.agg [ci a1.Low, tl e_Span default a1.Rows]] [] (law10_SectionChecks_x r) (law10_SectionChecks_o r) := by
  unfold law10_SectionChecks at hm
  refine CtX_of_E (fn := Try.f3) (c := nd Try.f3 1) (nt := 16) (by kernel_rfl) (by kernel_rfl) (by kernel_rfl) (by kernel_rfl) fun E => ?_
  refine R_sq Try.f3 2 3 (by kernel_rfl) ?_
  refine R_rn Try.f3 2 0 [] [] 0 ⟨[(1, vp 0 0)], [(0, bx 24 [ci a1.Low, tl e_Span default a1.Rows])]⟩ o0 (by kernel_rfl) (by kernel_rfl) ?_
  refine R_join (ι := Bool) (nd Try.f3 6) (nd Try.f3 7) (by kernel_rfl) (fun p => law10_SectionChecks_k1_S p) (fun p => law10_SectionChecks_k1 p = some r) ?_ ?_
  · rintro x14 hm
    show H _ (law10_SectionChecks_k1_S x14) (nd Try.f3 7) _
    obtain rfl := Option.some.inj hm
    refine R_ret (by kernel_rfl) ?_
    exact ret_mk (by kernel_rfl) (by kernel_rfl)
  · obtain ⟨v2, h3, hm⟩ := bind_s hm
    rcases Bool.eq_false_or_eq_true (!v2) with b4 | b4
    · replace hm := bif_t b4 hm
      obtain ⟨v5, h6, hm⟩ := bind_s hm
      refine R_dr Try.f3 6 1 [] [(1, dex (cen [] [] 1 0 (law10_few_x v2) (law10_few_o v2) [3] [])), (3, dfx true), (11, dex (cen [] [] 1 0 (law10_awake_x v5) (law10_awake_o v5) [13] []))] [] [0, 1, 3, 7, 15, 31, 15, 127, 255, 511, 1023, 2047, 4095, 8191] 1 ⟨[(2, vb v5)], []⟩ (o1 (And.intro (callS (K := (kx E 16 0)) ⟨[(3, va [ci a1.Low, tl e_Span default a1.Rows])], []⟩ (opAt (rg Try.f3 6) 1) [] [] 1 o0 rfl (law10_few_ok a1 v2 h3) (.inl rfl) (by kernel_rfl)) (And.intro b4 (callS (K := (kx E 16 0)) ⟨[(13, vb true)], []⟩ (opAt (rg Try.f3 6) 11) [] [] 1 o0 rfl (law10_awake_ok v5 h6) (.inl rfl) (by kernel_rfl))))) (by kernel_rfl) (by kernel_rfl) ?_
      exact J_mk (v5) hm (by kernel_rfl) (by kernel_rfl)
    · replace hm := bif_f b4 hm
      obtain ⟨v7, h8, hm⟩ := bind_s hm
      obtain ⟨v9, h10, hm⟩ := bind_s hm
      rcases Bool.eq_false_or_eq_true (v7 == v9) with b11 | b11
      · replace hm := bif_t b11 hm
        obtain ⟨v12, h13, hm⟩ := bind_s hm
        refine R_dr Try.f3 6 1 [] [(1, dex (cen [] [] 1 0 (law10_few_x v2) (law10_few_o v2) [3] [])), (3, dfx false), (5, dex (cen [] [] 1 0 (section_Check_x v7) (section_Check_o v7) [6, 7] [])), (7, dex (cen [] [] 1 0 (ref10_Check_x v9) (ref10_Check_o v9) [6, 9] [])), (10, dfx true), (11, dex (cen [] [] 1 0 (law10_awake_x v12) (law10_awake_o v12) [13] []))] [] [0, 1, 3, 7, 15, 31, 15, 127, 255, 511, 1023, 2047, 4095, 8191] 1 ⟨[(2, vb v12)], []⟩ (o1 (And.intro (callS (K := (kx E 16 0)) ⟨[(3, va [ci a1.Low, tl e_Span default a1.Rows])], []⟩ (opAt (rg Try.f3 6) 1) [] [] 1 o0 rfl (law10_few_ok a1 v2 h3) (.inl rfl) (by kernel_rfl)) (And.intro b4 (And.intro (callS (K := (kx E 16 0)) ⟨[(6, vb false), (7, va [ci a1.Low, tl e_Span default a1.Rows])], []⟩ (opAt (rg Try.f3 6) 5) [] [] 1 o0 rfl (section_Check_ok a1 v7 h8) (.inl rfl) (by kernel_rfl)) (And.intro (callS (K := (kx E 16 0)) ⟨[(6, vb false), (9, va [ci a1.Low, tl e_Span default a1.Rows])], []⟩ (opAt (rg Try.f3 6) 7) [] [] 1 o0 rfl (ref10_Check_ok a1 v9 h10) (.inl rfl) (by kernel_rfl)) (And.intro b11 (callS (K := (kx E 16 0)) ⟨[(13, vb true)], []⟩ (opAt (rg Try.f3 6) 11) [] [] 1 o0 rfl (law10_awake_ok v12 h13) (.inl rfl) (by kernel_rfl)))))))) (by kernel_rfl) (by kernel_rfl) ?_
        exact J_mk (v12) hm (by kernel_rfl) (by kernel_rfl)
      · replace hm := bif_f b11 hm
        refine R_dr Try.f3 6 1 [] [(1, dex (cen [] [] 1 0 (law10_few_x v2) (law10_few_o v2) [3] [])), (3, dfx false), (5, dex (cen [] [] 1 0 (section_Check_x v7) (section_Check_o v7) [6, 7] [])), (7, dex (cen [] [] 1 0 (ref10_Check_x v9) (ref10_Check_o v9) [6, 9] [])), (10, dfx false)] [] [0, 1, 3, 7, 15, 31, 15, 127, 255, 511, 1023, 2047, 4095, 8191] 1 ⟨[(2, vb false)], []⟩ (o1 (And.intro (callS (K := (kx E 16 0)) ⟨[(3, va [ci a1.Low, tl e_Span default a1.Rows])], []⟩ (opAt (rg Try.f3 6) 1) [] [] 1 o0 rfl (law10_few_ok a1 v2 h3) (.inl rfl) (by kernel_rfl)) (And.intro b4 (And.intro (callS (K := (kx E 16 0)) ⟨[(6, vb false), (7, va [ci a1.Low, tl e_Span default a1.Rows])], []⟩ (opAt (rg Try.f3 6) 5) [] [] 1 o0 rfl (section_Check_ok a1 v7 h8) (.inl rfl) (by kernel_rfl)) (And.intro (callS (K := (kx E 16 0)) ⟨[(6, vb false), (9, va [ci a1.Low, tl e_Span default a1.Rows])], []⟩ (opAt (rg Try.f3 6) 7) [] [] 1 o0 rfl (ref10_Check_ok a1 v9 h10) (.inl rfl) (by kernel_rfl)) b11))))) (by kernel_rfl) (by kernel_rfl) ?_
        exact J_mk (false) hm (by kernel_rfl) (by kernel_rfl)

end Saw
end Go.SL
