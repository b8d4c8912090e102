import Derived.Test.YtjelipmghgcpeaaSBase
import Derived.Test.YtjelipmghgcpeaaSLs
import Derived.Test.YtjelipmghgcpeaaSLlaw10awake
import Derived.Test.YtjelipmghgcpeaaSFa4
import Derived.Test.YtjelipmghgcpeaaSFa6
import Derived.Test.YtjelipmghgcpeaaSFa5
import Derived.Test.YtjelipmghgcpeaaSFa7
set_option linter.unusedVariables false
set_option linter.unusedSimpArgs false
namespace Go.SL
namespace Saw
open Go.Proofs
set_option maxHeartbeats 4000000

def law10_SectionAreas_x (r : Bool) : V := vb r

def law10_SectionAreas_o (r : Bool) : List (Nat × (Nat × O)) := []

theorem law10_SectionAreas_f (r : Bool) : Frozen (law10_SectionAreas_o r) := by
  intro i k o h
  unfold law10_SectionAreas_o at h
  cases h

def law10_SectionAreas_k1_S (x25 : Bool) : St :=
  ⟨[(4, vb x25)], []⟩

set_option maxRecDepth 100000 in
theorem law10_SectionAreas_ok (a1 : Section) (a2 : Rect) (r : Bool) (hm : law10_SectionAreas a1 a2 = some r) : CtX Try.prog globs 5 0 0 [.agg [ci a1.Low, tl e_Span default a1.Rows], .agg [ci a2.X.A, ci a2.X.B, ci a2.Y.A, ci a2.Y.B]] [] (law10_SectionAreas_x r) (law10_SectionAreas_o r) := by
  unfold law10_SectionAreas at hm
  refine CtX_of_E (fn := Try.f5) (c := nd Try.f5 1) (nt := 33) (by kernel_rfl) (by kernel_rfl) (by kernel_rfl) (by kernel_rfl) fun E => ?_
  refine R_sq Try.f5 2 3 (by kernel_rfl) ?_
  refine R_rn Try.f5 2 0 [] [] 0 ⟨[(2, vp 0 0), (3, vp 1 0)], [(0, bx 24 [ci a1.Low, tl e_Span default a1.Rows]), (1, bx 37 [ci a2.X.A, ci a2.X.B, ci a2.Y.A, ci a2.Y.B])]⟩ o0 (by kernel_rfl) (by kernel_rfl) ?_
  refine R_sq Try.f5 6 7 (by kernel_rfl) ?_
  refine R_sq Try.f5 12 13 (by kernel_rfl) ?_
  obtain ⟨v3, h4, hm⟩ := bind_s hm
  refine R_rn Try.f5 12 1 [(1, dex (cen [] [] 2 0 (law10_few_x v3) (law10_few_o v3) [5] []))] [] 2 ⟨[(2, vp 0 0), (3, vp 1 0), (7, vb (!v3))], [(0, bx 24 [ci a1.Low, tl e_Span default a1.Rows]), (1, bx 37 [ci a2.X.A, ci a2.X.B, ci a2.Y.A, ci a2.Y.B])]⟩ (o1 (callS (K := (kx E 33 0)) ⟨[(5, va [ci a1.Low, tl e_Span default a1.Rows])], []⟩ (opAt (rg Try.f5 12) 1) [] [] 2 o0 rfl (law10_few_ok a1 v3 h4) (.inl rfl) (by kernel_rfl))) (by kernel_rfl) (by kernel_rfl) ?_
  refine R_cn Try.f5 (.tmp 7) 26 27 (by kernel_rfl) (!v3) (by kernel_rfl) (fun b5 => ?_) (fun b5 => ?_)
  · replace hm := bif_t b5 hm
    refine R_sq Try.f5 52 53 (by kernel_rfl) ?_
    obtain ⟨v6, h7, hm⟩ := bind_s hm
    refine R_rn Try.f5 52 2 [(0, dex (cen [] [] 2 0 (law10_awake_x v6) (law10_awake_o v6) [] []))] [] 2 ⟨[(4, vb v6)], []⟩ (o1 (callS (K := (kx E 33 0)) ⟨[], []⟩ (opAt (rg Try.f5 52) 0) [] [] 2 o0 rfl (law10_awake_ok v6 h7) (.inl rfl) (by kernel_rfl))) (by kernel_rfl) (by kernel_rfl) ?_
    obtain rfl := Option.some.inj hm
    refine R_ret (by kernel_rfl) ?_
    exact ret_mk (by kernel_rfl) (by kernel_rfl)
  · replace hm := bif_f b5 hm
    refine R_skip (by kernel_rfl) ?_
    refine R_join (ι := Bool) (nd Try.f5 14) (nd Try.f5 15) (by kernel_rfl) (fun p => law10_SectionAreas_k1_S p) (fun p => law10_SectionAreas_k1 p = some r) ?_ ?_
    · rintro x25 hm
      show H _ (law10_SectionAreas_k1_S x25) (nd Try.f5 15) _
      obtain rfl := Option.some.inj hm
      refine R_ret (by kernel_rfl) ?_
      exact ret_mk (by kernel_rfl) (by kernel_rfl)
    · obtain ⟨v8, h9, hm⟩ := bind_s hm
      obtain ⟨v10, h11, hm⟩ := bind_s hm
      rcases Bool.eq_false_or_eq_true (v8 == v10) with b12 | b12
      · replace hm := bif_t b12 hm
        obtain ⟨v13, h14, hm⟩ := bind_s hm
        obtain ⟨v15, h16, hm⟩ := bind_s hm
        rcases Bool.eq_false_or_eq_true (v13 == v15) with b17 | b17
        · replace hm := bif_t b17 hm
          obtain ⟨v18, h19, hm⟩ := bind_s hm
          obtain ⟨v20, h21, hm⟩ := bind_s hm
          rcases Bool.eq_false_or_eq_true (((v18.X.A == v20.X.A) && ((v18.X.B == v20.X.B) && true)) && (((v18.Y.A == v20.Y.A) && ((v18.Y.B == v20.Y.B) && true)) && true)) with b22 | b22
          · replace hm := bif_t b22 hm
            obtain ⟨v23, h24, hm⟩ := bind_s hm
            refine R_dr Try.f5 14 3 [] [(1, dex (cen [] [] 2 0 (section_Area_x v8) (section_Area_o v8) [9] [])), (3, dex (cen [] [] 2 0 (ref10_Area_x v10) (ref10_Area_o v10) [11] [])), (5, dfx true), (8, dex (cen [] [] 2 0 (section_Within_x v13) (section_Within_o v13) [14, 15, 16] [])), (11, dex (cen [] [] 2 0 (ref10_Within_x v15) (ref10_Within_o v15) [14, 18, 19] [])), (14, dfx true), (16, dex (cen [] [] 2 0 (section_Bounds_x v18) (section_Bounds_o v18) [23, 24] [])), (18, dex (cen [] [] 2 0 (ref10_Bounds_x v20) (ref10_Bounds_o v20) [23, 26] [])), (21, dfx true), (22, dex (cen [] [] 2 0 (law10_awake_x v23) (law10_awake_o v23) [30] []))] [] [0, 1, 0, 7, 15, 31, 63, 63, 255, 63, 63, 2047, 4095, 8191, 16383, 32767, 65535, 32767, 262143, 524287, 1048575, 2097151, 4194303, 8388607, 16777215] 2 ⟨[(4, vb v23)], []⟩ (o1 (And.intro (callS (K := (kx E 33 0)) ⟨[(9, va [ci a1.Low, tl e_Span default a1.Rows])], []⟩ (opAt (rg Try.f5 14) 1) [] [] 2 o0 rfl (section_Area_ok a1 v8 h9) (.inl rfl) (by kernel_rfl)) (And.intro (callS (K := (kx E 33 0)) ⟨[(11, va [ci a1.Low, tl e_Span default a1.Rows])], []⟩ (opAt (rg Try.f5 14) 3) [] [] 2 o0 rfl (ref10_Area_ok a1 v10 h11) (.inl rfl) (by kernel_rfl)) (And.intro b12 (And.intro (callS (K := (kx E 33 0)) ⟨[(14, vb true), (15, va [ci a1.Low, tl e_Span default a1.Rows]), (16, va [ci a2.X.A, ci a2.X.B, ci a2.Y.A, ci a2.Y.B])], []⟩ (opAt (rg Try.f5 14) 8) [] [] 2 o0 rfl (section_Within_ok a1 a2 v13 h14) (.inl rfl) (by kernel_rfl)) (And.intro (callS (K := (kx E 33 0)) ⟨[(14, vb true), (18, va [ci a1.Low, tl e_Span default a1.Rows]), (19, va [ci a2.X.A, ci a2.X.B, ci a2.Y.A, ci a2.Y.B])], []⟩ (opAt (rg Try.f5 14) 11) [] [] 2 o0 rfl (ref10_Within_ok a1 a2 v15 h16) (.inl rfl) (by kernel_rfl)) (And.intro b17 (And.intro (callS (K := (kx E 33 0)) ⟨[(23, vb true), (24, va [ci a1.Low, tl e_Span default a1.Rows])], []⟩ (opAt (rg Try.f5 14) 16) [] [] 2 o0 rfl (section_Bounds_ok a1 v18 h19) (.inl rfl) (by kernel_rfl)) (And.intro (callS (K := (kx E 33 0)) ⟨[(23, vb true), (26, va [ci a1.Low, tl e_Span default a1.Rows])], []⟩ (opAt (rg Try.f5 14) 18) [] [] 2 o0 rfl (ref10_Bounds_ok a1 v20 h21) (.inl rfl) (by kernel_rfl)) (And.intro b22 (callS (K := (kx E 33 0)) ⟨[(30, vb true)], []⟩ (opAt (rg Try.f5 14) 22) [] [] 2 o0 rfl (law10_awake_ok v23 h24) (.inl rfl) (by kernel_rfl)))))))))))) (by kernel_rfl) (by kernel_rfl) ?_
            exact J_mk (v23) hm (by kernel_rfl) (by kernel_rfl)
          · replace hm := bif_f b22 hm
            refine R_dr Try.f5 14 3 [] [(1, dex (cen [] [] 2 0 (section_Area_x v8) (section_Area_o v8) [9] [])), (3, dex (cen [] [] 2 0 (ref10_Area_x v10) (ref10_Area_o v10) [11] [])), (5, dfx true), (8, dex (cen [] [] 2 0 (section_Within_x v13) (section_Within_o v13) [14, 15, 16] [])), (11, dex (cen [] [] 2 0 (ref10_Within_x v15) (ref10_Within_o v15) [14, 18, 19] [])), (14, dfx true), (16, dex (cen [] [] 2 0 (section_Bounds_x v18) (section_Bounds_o v18) [23, 24] [])), (18, dex (cen [] [] 2 0 (ref10_Bounds_x v20) (ref10_Bounds_o v20) [23, 26] [])), (21, dfx false)] [] [0, 1, 0, 7, 15, 31, 63, 63, 255, 63, 63, 2047, 4095, 8191, 16383, 32767, 65535, 32767, 262143, 524287, 1048575, 2097151, 4194303, 8388607, 16777215] 2 ⟨[(4, vb false)], []⟩ (o1 (And.intro (callS (K := (kx E 33 0)) ⟨[(9, va [ci a1.Low, tl e_Span default a1.Rows])], []⟩ (opAt (rg Try.f5 14) 1) [] [] 2 o0 rfl (section_Area_ok a1 v8 h9) (.inl rfl) (by kernel_rfl)) (And.intro (callS (K := (kx E 33 0)) ⟨[(11, va [ci a1.Low, tl e_Span default a1.Rows])], []⟩ (opAt (rg Try.f5 14) 3) [] [] 2 o0 rfl (ref10_Area_ok a1 v10 h11) (.inl rfl) (by kernel_rfl)) (And.intro b12 (And.intro (callS (K := (kx E 33 0)) ⟨[(14, vb true), (15, va [ci a1.Low, tl e_Span default a1.Rows]), (16, va [ci a2.X.A, ci a2.X.B, ci a2.Y.A, ci a2.Y.B])], []⟩ (opAt (rg Try.f5 14) 8) [] [] 2 o0 rfl (section_Within_ok a1 a2 v13 h14) (.inl rfl) (by kernel_rfl)) (And.intro (callS (K := (kx E 33 0)) ⟨[(14, vb true), (18, va [ci a1.Low, tl e_Span default a1.Rows]), (19, va [ci a2.X.A, ci a2.X.B, ci a2.Y.A, ci a2.Y.B])], []⟩ (opAt (rg Try.f5 14) 11) [] [] 2 o0 rfl (ref10_Within_ok a1 a2 v15 h16) (.inl rfl) (by kernel_rfl)) (And.intro b17 (And.intro (callS (K := (kx E 33 0)) ⟨[(23, vb true), (24, va [ci a1.Low, tl e_Span default a1.Rows])], []⟩ (opAt (rg Try.f5 14) 16) [] [] 2 o0 rfl (section_Bounds_ok a1 v18 h19) (.inl rfl) (by kernel_rfl)) (And.intro (callS (K := (kx E 33 0)) ⟨[(23, vb true), (26, va [ci a1.Low, tl e_Span default a1.Rows])], []⟩ (opAt (rg Try.f5 14) 18) [] [] 2 o0 rfl (ref10_Bounds_ok a1 v20 h21) (.inl rfl) (by kernel_rfl)) b22))))))))) (by kernel_rfl) (by kernel_rfl) ?_
            exact J_mk (false) hm (by kernel_rfl) (by kernel_rfl)
        · replace hm := bif_f b17 hm
          refine R_dr Try.f5 14 3 [] [(1, dex (cen [] [] 2 0 (section_Area_x v8) (section_Area_o v8) [9] [])), (3, dex (cen [] [] 2 0 (ref10_Area_x v10) (ref10_Area_o v10) [11] [])), (5, dfx true), (8, dex (cen [] [] 2 0 (section_Within_x v13) (section_Within_o v13) [14, 15, 16] [])), (11, dex (cen [] [] 2 0 (ref10_Within_x v15) (ref10_Within_o v15) [14, 18, 19] [])), (14, dfx false)] [] [0, 1, 0, 7, 15, 31, 63, 63, 255, 63, 63, 2047, 4095, 8191, 16383, 32767, 65535, 32767, 262143, 524287, 1048575, 2097151, 4194303, 8388607, 16777215] 2 ⟨[(4, vb false)], []⟩ (o1 (And.intro (callS (K := (kx E 33 0)) ⟨[(9, va [ci a1.Low, tl e_Span default a1.Rows])], []⟩ (opAt (rg Try.f5 14) 1) [] [] 2 o0 rfl (section_Area_ok a1 v8 h9) (.inl rfl) (by kernel_rfl)) (And.intro (callS (K := (kx E 33 0)) ⟨[(11, va [ci a1.Low, tl e_Span default a1.Rows])], []⟩ (opAt (rg Try.f5 14) 3) [] [] 2 o0 rfl (ref10_Area_ok a1 v10 h11) (.inl rfl) (by kernel_rfl)) (And.intro b12 (And.intro (callS (K := (kx E 33 0)) ⟨[(14, vb true), (15, va [ci a1.Low, tl e_Span default a1.Rows]), (16, va [ci a2.X.A, ci a2.X.B, ci a2.Y.A, ci a2.Y.B])], []⟩ (opAt (rg Try.f5 14) 8) [] [] 2 o0 rfl (section_Within_ok a1 a2 v13 h14) (.inl rfl) (by kernel_rfl)) (And.intro (callS (K := (kx E 33 0)) ⟨[(14, vb true), (18, va [ci a1.Low, tl e_Span default a1.Rows]), (19, va [ci a2.X.A, ci a2.X.B, ci a2.Y.A, ci a2.Y.B])], []⟩ (opAt (rg Try.f5 14) 11) [] [] 2 o0 rfl (ref10_Within_ok a1 a2 v15 h16) (.inl rfl) (by kernel_rfl)) b17)))))) (by kernel_rfl) (by kernel_rfl) ?_
          exact J_mk (false) hm (by kernel_rfl) (by kernel_rfl)
      · replace hm := bif_f b12 hm
        refine R_dr Try.f5 14 3 [] [(1, dex (cen [] [] 2 0 (section_Area_x v8) (section_Area_o v8) [9] [])), (3, dex (cen [] [] 2 0 (ref10_Area_x v10) (ref10_Area_o v10) [11] [])), (5, dfx false)] [] [0, 1, 0, 7, 15, 31, 63, 63, 255, 63, 63, 2047, 4095, 8191, 16383, 32767, 65535, 32767, 262143, 524287, 1048575, 2097151, 4194303, 8388607, 16777215] 2 ⟨[(4, vb false)], []⟩ (o1 (And.intro (callS (K := (kx E 33 0)) ⟨[(9, va [ci a1.Low, tl e_Span default a1.Rows])], []⟩ (opAt (rg Try.f5 14) 1) [] [] 2 o0 rfl (section_Area_ok a1 v8 h9) (.inl rfl) (by kernel_rfl)) (And.intro (callS (K := (kx E 33 0)) ⟨[(11, va [ci a1.Low, tl e_Span default a1.Rows])], []⟩ (opAt (rg Try.f5 14) 3) [] [] 2 o0 rfl (ref10_Area_ok a1 v10 h11) (.inl rfl) (by kernel_rfl)) b12))) (by kernel_rfl) (by kernel_rfl) ?_
        exact J_mk (false) hm (by kernel_rfl) (by kernel_rfl)

end Saw
end Go.SL
