import Derived.Test.YtjelipmghgcpeaaSBase
import Derived.Test.YtjelipmghgcpeaaSLlaw10awake
import Derived.Test.YtjelipmghgcpeaaSFa7
import Derived.Test.YtjelipmghgcpeaaSFa8
import Derived.Test.YtjelipmghgcpeaaSLlaw10same
import Derived.Test.YtjelipmghgcpeaaSFa5
import Derived.Test.YtjelipmghgcpeaaSLs
set_option linter.unusedVariables false
set_option linter.unusedSimpArgs false
namespace Go.SL
namespace Saw
open Go.Proofs
set_option maxHeartbeats 4000000

def law10_SectionMeets_x (r : Bool) : V := vb r

def law10_SectionMeets_o (r : Bool) : List (Nat × (Nat × O)) := []

theorem law10_SectionMeets_f (r : Bool) : Frozen (law10_SectionMeets_o r) := by
  intro i k o h
  unfold law10_SectionMeets_o at h
  cases h

def law10_SectionMeets_k2_S (x26 : Bool) : St :=
  ⟨[(4, vb x26)], []⟩

def law10_SectionMeets_k1_S (a1 : Section) (a2 : Section) (x8 : Bool) : St :=
  ⟨[(2, vp 0 0), (3, vp 1 0), (12, vb x8)], [(0, bx 24 [ci a1.Low, tl e_Span default a1.Rows]), (1, bx 24 [ci a2.Low, tl e_Span default a2.Rows])]⟩

set_option maxRecDepth 100000 in
theorem law10_SectionMeets_ok (a1 : Section) (a2 : Section) (r : Bool) (hm : law10_SectionMeets a1 a2 = some r) : CtX Try.prog globs 9 0 0 [.agg [ci a1.Low, tl e_Span default a1.Rows], .agg [ci a2.Low, tl e_Span default a2.Rows]] [] (law10_SectionMeets_x r) (law10_SectionMeets_o r) := by
  unfold law10_SectionMeets at hm
  refine CtX_of_E (fn := Try.f9) (c := nd Try.f9 1) (nt := 33) (by kernel_rfl) (by kernel_rfl) (by kernel_rfl) (by kernel_rfl) fun E => ?_
  refine R_sq Try.f9 2 3 (by kernel_rfl) ?_
  refine R_rn Try.f9 2 0 [] [] 0 ⟨[(2, vp 0 0), (3, vp 1 0)], [(0, bx 24 [ci a1.Low, tl e_Span default a1.Rows]), (1, bx 24 [ci a2.Low, tl e_Span default a2.Rows])]⟩ o0 (by kernel_rfl) (by kernel_rfl) ?_
  refine R_sq Try.f9 6 7 (by kernel_rfl) ?_
  refine R_join (ι := Bool) (nd Try.f9 12) (nd Try.f9 13) (by kernel_rfl) (fun p => law10_SectionMeets_k1_S a1 a2 p) (fun p => law10_SectionMeets_k1 a1 a2 p = some r) ?_ ?_
  · rintro x8 hm
    show H _ (law10_SectionMeets_k1_S a1 a2 x8) (nd Try.f9 13) _
    refine R_cn Try.f9 (.tmp 12) 26 27 (by kernel_rfl) x8 (by kernel_rfl) (fun b9 => ?_) (fun b9 => ?_)
    · replace hm := bif_t b9 hm
      refine R_sq Try.f9 52 53 (by kernel_rfl) ?_
      obtain ⟨v10, h11, hm⟩ := bind_s hm
      refine R_rn Try.f9 52 2 [(0, dex (cen [] [] 2 0 (law10_awake_x v10) (law10_awake_o v10) [] []))] [] 2 ⟨[(4, vb v10)], []⟩ (o1 (callS (K := (kx E 33 0)) ⟨[], []⟩ (opAt (rg Try.f9 52) 0) [] [] 2 o0 rfl (law10_awake_ok v10 h11) (.inl rfl) (by kernel_rfl))) (by kernel_rfl) (by kernel_rfl) ?_
      obtain rfl := Option.some.inj hm
      refine R_ret (by kernel_rfl) ?_
      exact ret_mk (by kernel_rfl) (by kernel_rfl)
    · replace hm := bif_f b9 hm
      refine R_skip (by kernel_rfl) ?_
      refine R_join (ι := Bool) (nd Try.f9 14) (nd Try.f9 15) (by kernel_rfl) (fun p => law10_SectionMeets_k2_S p) (fun p => law10_SectionMeets_k2 p = some r) ?_ ?_
      · rintro x26 hm
        show H _ (law10_SectionMeets_k2_S x26) (nd Try.f9 15) _
        obtain rfl := Option.some.inj hm
        refine R_ret (by kernel_rfl) ?_
        exact ret_mk (by kernel_rfl) (by kernel_rfl)
      · obtain ⟨v12, h13, hm⟩ := bind_s hm
        obtain ⟨v14, h15, hm⟩ := bind_s hm
        obtain ⟨v16, h17, hm⟩ := bind_s hm
        rcases Bool.eq_false_or_eq_true v16 with b18 | b18
        · replace hm := bif_t b18 hm
          obtain ⟨v19, h20, hm⟩ := bind_s hm
          obtain ⟨v21, h22, hm⟩ := bind_s hm
          rcases Bool.eq_false_or_eq_true (v19 == v21) with b23 | b23
          · replace hm := bif_t b23 hm
            obtain ⟨v24, h25, hm⟩ := bind_s hm
            refine R_dr Try.f9 14 3 [] [(2, dex (cen [] [] 2 0 (section_Meet_x v12) (section_Meet_o v12) [14, 15] [])), (5, dex (cen [] [] 3 0 (ref10_Meet_x v14) (ref10_Meet_o v14) [17, 18] [])), (6, dex (cen [] [] 4 0 (law10_same_x v16) (law10_same_o v16) [16, 19] [2, 3])), (7, dfx true), (10, dex (cen [] [] 4 0 (section_Equal_x v19) (section_Equal_o v19) [21, 22, 23] [])), (13, dex (cen [] [] 4 0 (ref10_Equal_x v21) (ref10_Equal_o v21) [21, 25, 26] [])), (16, dfx true), (17, dex (cen [] [] 4 0 (law10_awake_x v24) (law10_awake_o v24) [30] []))] [] [0, 0, 3, 0, 0, 31, 63, 127, 255, 255, 1023, 255, 255, 8191, 16383, 32767, 65535, 131071, 262143, 524287] 2 ⟨[(4, vb v24)], []⟩ (o1 (And.intro (callS (K := (kx E 33 0)) ⟨[(14, va [ci a1.Low, tl e_Span default a1.Rows]), (15, va [ci a2.Low, tl e_Span default a2.Rows])], []⟩ (opAt (rg Try.f9 14) 2) [] [] 2 o0 rfl (section_Meet_ok a1 a2 v12 h13) (.inl rfl) (by kernel_rfl)) (And.intro (callS (K := (kx E 33 0)) ⟨[(17, va [ci a1.Low, tl e_Span default a1.Rows]), (18, va [ci a2.Low, tl e_Span default a2.Rows])], []⟩ (opAt (rg Try.f9 14) 5) [] [] 3 o0 rfl (ref10_Meet_ok a1 a2 v14 h15) (.inl rfl) (by kernel_rfl)) (And.intro (callS (K := (kx E 33 0)) (b := false) ⟨[(16, va [ci v12.Low, .own 2 0 2 v12.Rows.length]), (19, va [ci v14.Low, .own 3 0 2 v14.Rows.length])], [(2, ro 0 35 2 v12.Rows.length (rf e_Span v12.Rows)), (3, ro 0 35 2 v14.Rows.length (rf e_Span v14.Rows))]⟩ (opAt (rg Try.f9 14) 6) [] [] 4 (o1 (And.intro (Nat.le_refl v12.Rows.length) (Nat.le_refl v14.Rows.length))) rfl (law10_same_ok (Section.mk v12.Low v12.Rows) (Section.mk v14.Low v14.Rows) v16 h17) (.inr ⟨(by kernel_rfl), law10_same_f v16⟩) (by kernel_rfl)) (And.intro b18 (And.intro (callS (K := (kx E 33 0)) ⟨[(21, vb true), (22, va [ci a1.Low, tl e_Span default a1.Rows]), (23, va [ci a2.Low, tl e_Span default a2.Rows])], []⟩ (opAt (rg Try.f9 14) 10) [] [] 4 o0 rfl (section_Equal_ok a1 a2 v19 h20) (.inl rfl) (by kernel_rfl)) (And.intro (callS (K := (kx E 33 0)) ⟨[(21, vb true), (25, va [ci a1.Low, tl e_Span default a1.Rows]), (26, va [ci a2.Low, tl e_Span default a2.Rows])], []⟩ (opAt (rg Try.f9 14) 13) [] [] 4 o0 rfl (ref10_Equal_ok a1 a2 v21 h22) (.inl rfl) (by kernel_rfl)) (And.intro b23 (callS (K := (kx E 33 0)) ⟨[(30, vb true)], []⟩ (opAt (rg Try.f9 14) 17) [] [] 4 o0 rfl (law10_awake_ok v24 h25) (.inl rfl) (by kernel_rfl)))))))))) (by kernel_rfl) (by kernel_rfl) ?_
            exact J_mk (v24) hm (by kernel_rfl) (by kernel_rfl)
          · replace hm := bif_f b23 hm
            refine R_dr Try.f9 14 3 [] [(2, dex (cen [] [] 2 0 (section_Meet_x v12) (section_Meet_o v12) [14, 15] [])), (5, dex (cen [] [] 3 0 (ref10_Meet_x v14) (ref10_Meet_o v14) [17, 18] [])), (6, dex (cen [] [] 4 0 (law10_same_x v16) (law10_same_o v16) [16, 19] [2, 3])), (7, dfx true), (10, dex (cen [] [] 4 0 (section_Equal_x v19) (section_Equal_o v19) [21, 22, 23] [])), (13, dex (cen [] [] 4 0 (ref10_Equal_x v21) (ref10_Equal_o v21) [21, 25, 26] [])), (16, dfx false)] [] [0, 0, 3, 0, 0, 31, 63, 127, 255, 255, 1023, 255, 255, 8191, 16383, 32767, 65535, 131071, 262143, 524287] 2 ⟨[(4, vb false)], []⟩ (o1 (And.intro (callS (K := (kx E 33 0)) ⟨[(14, va [ci a1.Low, tl e_Span default a1.Rows]), (15, va [ci a2.Low, tl e_Span default a2.Rows])], []⟩ (opAt (rg Try.f9 14) 2) [] [] 2 o0 rfl (section_Meet_ok a1 a2 v12 h13) (.inl rfl) (by kernel_rfl)) (And.intro (callS (K := (kx E 33 0)) ⟨[(17, va [ci a1.Low, tl e_Span default a1.Rows]), (18, va [ci a2.Low, tl e_Span default a2.Rows])], []⟩ (opAt (rg Try.f9 14) 5) [] [] 3 o0 rfl (ref10_Meet_ok a1 a2 v14 h15) (.inl rfl) (by kernel_rfl)) (And.intro (callS (K := (kx E 33 0)) (b := false) ⟨[(16, va [ci v12.Low, .own 2 0 2 v12.Rows.length]), (19, va [ci v14.Low, .own 3 0 2 v14.Rows.length])], [(2, ro 0 35 2 v12.Rows.length (rf e_Span v12.Rows)), (3, ro 0 35 2 v14.Rows.length (rf e_Span v14.Rows))]⟩ (opAt (rg Try.f9 14) 6) [] [] 4 (o1 (And.intro (Nat.le_refl v12.Rows.length) (Nat.le_refl v14.Rows.length))) rfl (law10_same_ok (Section.mk v12.Low v12.Rows) (Section.mk v14.Low v14.Rows) v16 h17) (.inr ⟨(by kernel_rfl), law10_same_f v16⟩) (by kernel_rfl)) (And.intro b18 (And.intro (callS (K := (kx E 33 0)) ⟨[(21, vb true), (22, va [ci a1.Low, tl e_Span default a1.Rows]), (23, va [ci a2.Low, tl e_Span default a2.Rows])], []⟩ (opAt (rg Try.f9 14) 10) [] [] 4 o0 rfl (section_Equal_ok a1 a2 v19 h20) (.inl rfl) (by kernel_rfl)) (And.intro (callS (K := (kx E 33 0)) ⟨[(21, vb true), (25, va [ci a1.Low, tl e_Span default a1.Rows]), (26, va [ci a2.Low, tl e_Span default a2.Rows])], []⟩ (opAt (rg Try.f9 14) 13) [] [] 4 o0 rfl (ref10_Equal_ok a1 a2 v21 h22) (.inl rfl) (by kernel_rfl)) b23))))))) (by kernel_rfl) (by kernel_rfl) ?_
            exact J_mk (false) hm (by kernel_rfl) (by kernel_rfl)
        · replace hm := bif_f b18 hm
          refine R_dr Try.f9 14 3 [] [(2, dex (cen [] [] 2 0 (section_Meet_x v12) (section_Meet_o v12) [14, 15] [])), (5, dex (cen [] [] 3 0 (ref10_Meet_x v14) (ref10_Meet_o v14) [17, 18] [])), (6, dex (cen [] [] 4 0 (law10_same_x v16) (law10_same_o v16) [16, 19] [2, 3])), (7, dfx false)] [] [0, 0, 3, 0, 0, 31, 63, 127, 255, 255, 1023, 255, 255, 8191, 16383, 32767, 65535, 131071, 262143, 524287] 2 ⟨[(4, vb false)], []⟩ (o1 (And.intro (callS (K := (kx E 33 0)) ⟨[(14, va [ci a1.Low, tl e_Span default a1.Rows]), (15, va [ci a2.Low, tl e_Span default a2.Rows])], []⟩ (opAt (rg Try.f9 14) 2) [] [] 2 o0 rfl (section_Meet_ok a1 a2 v12 h13) (.inl rfl) (by kernel_rfl)) (And.intro (callS (K := (kx E 33 0)) ⟨[(17, va [ci a1.Low, tl e_Span default a1.Rows]), (18, va [ci a2.Low, tl e_Span default a2.Rows])], []⟩ (opAt (rg Try.f9 14) 5) [] [] 3 o0 rfl (ref10_Meet_ok a1 a2 v14 h15) (.inl rfl) (by kernel_rfl)) (And.intro (callS (K := (kx E 33 0)) (b := false) ⟨[(16, va [ci v12.Low, .own 2 0 2 v12.Rows.length]), (19, va [ci v14.Low, .own 3 0 2 v14.Rows.length])], [(2, ro 0 35 2 v12.Rows.length (rf e_Span v12.Rows)), (3, ro 0 35 2 v14.Rows.length (rf e_Span v14.Rows))]⟩ (opAt (rg Try.f9 14) 6) [] [] 4 (o1 (And.intro (Nat.le_refl v12.Rows.length) (Nat.le_refl v14.Rows.length))) rfl (law10_same_ok (Section.mk v12.Low v12.Rows) (Section.mk v14.Low v14.Rows) v16 h17) (.inr ⟨(by kernel_rfl), law10_same_f v16⟩) (by kernel_rfl)) b18)))) (by kernel_rfl) (by kernel_rfl) ?_
          exact J_mk (false) hm (by kernel_rfl) (by kernel_rfl)
  · obtain ⟨v3, h4, hm⟩ := bind_s hm
    rcases Bool.eq_false_or_eq_true (!v3) with b5 | b5
    · replace hm := bif_t b5 hm
      refine R_rn Try.f9 12 1 [(1, dex (cen [] [] 2 0 (law10_few_x v3) (law10_few_o v3) [5] [])), (3, dfx true)] [] 2 ⟨[(2, vp 0 0), (3, vp 1 0), (12, vb true)], [(0, bx 24 [ci a1.Low, tl e_Span default a1.Rows]), (1, bx 24 [ci a2.Low, tl e_Span default a2.Rows])]⟩ (o1 (And.intro (callS (K := (kx E 33 0)) ⟨[(5, va [ci a1.Low, tl e_Span default a1.Rows])], []⟩ (opAt (rg Try.f9 12) 1) [] [] 2 o0 rfl (law10_few_ok a1 v3 h4) (.inl rfl) (by kernel_rfl)) b5)) (by kernel_rfl) (by kernel_rfl) ?_
      exact J_mk (true) hm (by kernel_rfl) (by kernel_rfl)
    · replace hm := bif_f b5 hm
      obtain ⟨v6, h7, hm⟩ := bind_s hm
      refine R_rn Try.f9 12 1 [(1, dex (cen [] [] 2 0 (law10_few_x v3) (law10_few_o v3) [5] [])), (3, dfx false), (5, dex (cen [] [] 2 0 (law10_few_x v6) (law10_few_o v6) [8, 9] []))] [] 2 ⟨[(2, vp 0 0), (3, vp 1 0), (12, vb (!v6))], [(0, bx 24 [ci a1.Low, tl e_Span default a1.Rows]), (1, bx 24 [ci a2.Low, tl e_Span default a2.Rows])]⟩ (o1 (And.intro (callS (K := (kx E 33 0)) ⟨[(5, va [ci a1.Low, tl e_Span default a1.Rows])], []⟩ (opAt (rg Try.f9 12) 1) [] [] 2 o0 rfl (law10_few_ok a1 v3 h4) (.inl rfl) (by kernel_rfl)) (And.intro b5 (callS (K := (kx E 33 0)) ⟨[(8, vb false), (9, va [ci a2.Low, tl e_Span default a2.Rows])], []⟩ (opAt (rg Try.f9 12) 5) [] [] 2 o0 rfl (law10_few_ok a2 v6 h7) (.inl rfl) (by kernel_rfl))))) (by kernel_rfl) (by kernel_rfl) ?_
      exact J_mk (!v6) hm (by kernel_rfl) (by kernel_rfl)

end Saw
end Go.SL
