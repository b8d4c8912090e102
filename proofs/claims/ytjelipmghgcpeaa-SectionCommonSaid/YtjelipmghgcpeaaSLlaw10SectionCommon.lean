import Derived.Test.YtjelipmghgcpeaaSBase
import Derived.Test.YtjelipmghgcpeaaSLlaw10awake
import Derived.Test.YtjelipmghgcpeaaSFa7
import Derived.Test.YtjelipmghgcpeaaSFa5
import Derived.Test.YtjelipmghgcpeaaSFa4
import Derived.Test.YtjelipmghgcpeaaSLlaw10same
import Derived.Test.YtjelipmghgcpeaaSLs
set_option linter.unusedVariables false
set_option linter.unusedSimpArgs false
namespace Go.SL
namespace Saw
open Go.Proofs
set_option maxHeartbeats 4000000

def law10_SectionCommon_x (r : Bool) : V := vb r

def law10_SectionCommon_o (r : Bool) : List (Nat × (Nat × O)) := []

theorem law10_SectionCommon_f (r : Bool) : Frozen (law10_SectionCommon_o r) := by
  intro i k o h
  unfold law10_SectionCommon_o at h
  cases h

def law10_SectionCommon_k3_S (x49 : Bool) : St :=
  ⟨[(6, vb x49)], []⟩

def law10_SectionCommon_k2_S (a1 : Section) (a2 : Section) (a3 : Point) (v17 : Section) (x34 : Bool) : St :=
  ⟨[(3, vp 0 0), (4, vp 1 0), (5, vp 2 0), (7, vp 4 0), (64, vb x34)], [(0, bx 24 [ci a1.Low, tl e_Span default a1.Rows]), (1, bx 24 [ci a2.Low, tl e_Span default a2.Rows]), (2, bx 46 [ci a3.X, ci a3.Y]), (3, ro 0 35 2 v17.Rows.length (rf e_Span v17.Rows)), (4, bx 24 [ci v17.Low, .own 3 0 2 v17.Rows.length])]⟩

def law10_SectionCommon_k1_S (a1 : Section) (a2 : Section) (a3 : Point) (x13 : Bool) : St :=
  ⟨[(3, vp 0 0), (4, vp 1 0), (5, vp 2 0), (36, vb x13)], [(0, bx 24 [ci a1.Low, tl e_Span default a1.Rows]), (1, bx 24 [ci a2.Low, tl e_Span default a2.Rows]), (2, bx 46 [ci a3.X, ci a3.Y])]⟩

set_option maxRecDepth 100000 in
theorem law10_SectionCommon_ok (a1 : Section) (a2 : Section) (a3 : Point) (r : Bool) (hm : law10_SectionCommon a1 a2 a3 = some r) : CtX Try.prog globs 10 0 0 [.agg [ci a1.Low, tl e_Span default a1.Rows], .agg [ci a2.Low, tl e_Span default a2.Rows], .agg [ci a3.X, ci a3.Y]] [] (law10_SectionCommon_x r) (law10_SectionCommon_o r) := by
  unfold law10_SectionCommon at hm
  refine CtX_of_E (fn := Try.f10) (c := nd Try.f10 1) (nt := 98) (by kernel_rfl) (by kernel_rfl) (by kernel_rfl) (by kernel_rfl) fun E => ?_
  refine R_sq Try.f10 2 3 (by kernel_rfl) ?_
  refine R_rn Try.f10 2 0 [] [] 0 ⟨[(3, vp 0 0), (4, vp 1 0), (5, vp 2 0)], [(0, bx 24 [ci a1.Low, tl e_Span default a1.Rows]), (1, bx 24 [ci a2.Low, tl e_Span default a2.Rows]), (2, bx 46 [ci a3.X, ci a3.Y])]⟩ o0 (by kernel_rfl) (by kernel_rfl) ?_
  refine R_sq Try.f10 6 7 (by kernel_rfl) ?_
  refine R_join (ι := Bool) (nd Try.f10 12) (nd Try.f10 13) (by kernel_rfl) (fun p => law10_SectionCommon_k1_S a1 a2 a3 p) (fun p => law10_SectionCommon_k1 a1 a2 a3 p = some r) ?_ ?_
  · rintro x13 hm
    show H _ (law10_SectionCommon_k1_S a1 a2 a3 x13) (nd Try.f10 13) _
    refine R_cn Try.f10 (.tmp 36) 26 27 (by kernel_rfl) x13 (by kernel_rfl) (fun b14 => ?_) (fun b14 => ?_)
    · replace hm := bif_t b14 hm
      refine R_sq Try.f10 52 53 (by kernel_rfl) ?_
      obtain ⟨v15, h16, hm⟩ := bind_s hm
      refine R_rn Try.f10 52 2 [(0, dex (cen [] [] 3 0 (law10_awake_x v15) (law10_awake_o v15) [] []))] [] 3 ⟨[(6, vb v15)], []⟩ (o1 (callS (K := (kx E 98 0)) ⟨[], []⟩ (opAt (rg Try.f10 52) 0) [] [] 3 o0 rfl (law10_awake_ok v15 h16) (.inl rfl) (by kernel_rfl))) (by kernel_rfl) (by kernel_rfl) ?_
      obtain rfl := Option.some.inj hm
      refine R_ret (by kernel_rfl) ?_
      exact ret_mk (by kernel_rfl) (by kernel_rfl)
    · replace hm := bif_f b14 hm
      refine R_skip (by kernel_rfl) ?_
      refine R_sq Try.f10 14 15 (by kernel_rfl) ?_
      obtain ⟨v17, h18, hm⟩ := bind_s hm
      refine R_rn Try.f10 14 3 [(2, dex (cen [] [] 3 0 (section_Meet_x v17) (section_Meet_o v17) [38, 39] []))] [] 3 ⟨[(3, vp 0 0), (4, vp 1 0), (5, vp 2 0), (7, vp 4 0)], [(0, bx 24 [ci a1.Low, tl e_Span default a1.Rows]), (1, bx 24 [ci a2.Low, tl e_Span default a2.Rows]), (2, bx 46 [ci a3.X, ci a3.Y]), (3, ro 0 35 2 v17.Rows.length (rf e_Span v17.Rows)), (4, bx 24 [ci v17.Low, .own 3 0 2 v17.Rows.length])]⟩ (o1 (callS (K := (kx E 98 0)) ⟨[(38, va [ci a1.Low, tl e_Span default a1.Rows]), (39, va [ci a2.Low, tl e_Span default a2.Rows])], []⟩ (opAt (rg Try.f10 14) 2) [] [] 3 o0 rfl (section_Meet_ok a1 a2 v17 h18) (.inl rfl) (by kernel_rfl))) (by kernel_rfl) (by kernel_rfl) ?_
      refine R_sq Try.f10 30 31 (by kernel_rfl) ?_
      refine R_join (ι := Bool) (nd Try.f10 60) (nd Try.f10 61) (by kernel_rfl) (fun p => law10_SectionCommon_k2_S a1 a2 a3 v17 p) (fun p => law10_SectionCommon_k2 a1 a2 a3 v17 p = some r) ?_ ?_
      · rintro x34 hm
        show H _ (law10_SectionCommon_k2_S a1 a2 a3 v17 x34) (nd Try.f10 61) _
        refine R_cn Try.f10 (.tmp 64) 122 123 (by kernel_rfl) x34 (by kernel_rfl) (fun b35 => ?_) (fun b35 => ?_)
        · replace hm := bif_t b35 hm
          refine R_sq Try.f10 244 245 (by kernel_rfl) ?_
          refine R_rn Try.f10 244 5 [] [] 7 ⟨[(6, vb false)], []⟩ o0 (by kernel_rfl) (by kernel_rfl) ?_
          obtain rfl := Option.some.inj hm
          refine R_ret (by kernel_rfl) ?_
          exact ret_mk (by kernel_rfl) (by kernel_rfl)
        · replace hm := bif_f b35 hm
          refine R_skip (by kernel_rfl) ?_
          refine R_sq Try.f10 62 63 (by kernel_rfl) ?_
          refine R_rn Try.f10 62 6 [] [] 7 ⟨[(3, vp 0 0), (4, vp 1 0), (7, vp 4 0), (8, vp 7 0)], [(0, bx 24 [ci a1.Low, tl e_Span default a1.Rows]), (1, bx 24 [ci a2.Low, tl e_Span default a2.Rows]), (3, ro 0 35 2 v17.Rows.length (rf e_Span v17.Rows)), (4, bx 24 [ci v17.Low, .own 3 0 2 v17.Rows.length]), (7, bx 37 [ci a3.X, ci (w64 (a3.X + 1)), ci (w64 (10 * a3.Y)), ci (w64 (10 * (w64 (a3.Y + 1))))])]⟩ o0 (by kernel_rfl) (by kernel_rfl) ?_
          refine R_join (ι := Bool) (nd Try.f10 126) (nd Try.f10 127) (by kernel_rfl) (fun p => law10_SectionCommon_k3_S p) (fun p => law10_SectionCommon_k3 p = some r) ?_ ?_
          · rintro x49 hm
            show H _ (law10_SectionCommon_k3_S x49) (nd Try.f10 127) _
            obtain rfl := Option.some.inj hm
            refine R_ret (by kernel_rfl) ?_
            exact ret_mk (by kernel_rfl) (by kernel_rfl)
          · obtain ⟨v36, h37, hm⟩ := bind_s hm
            obtain ⟨v38, h39, hm⟩ := bind_s hm
            rcases Bool.eq_false_or_eq_true (v38 == 10) with b40 | b40
            · replace hm := bif_t b40 hm
              obtain ⟨v41, h42, hm⟩ := bind_s hm
              rcases Bool.eq_false_or_eq_true ((v36 == 10) == (v41 == 10)) with b43 | b43
              · replace hm := bif_t b43 hm
                obtain ⟨v44, h45, hm⟩ := bind_s hm
                refine R_dr Try.f10 126 7 [] [(2, dex (cen [] [] 8 0 (section_Within_x v36) (section_Within_o v36) [80, 81] [3])), (6, dex (cen [] [] 8 0 (section_Within_x v38) (section_Within_o v38) [84, 85] [])), (8, dfx true), (11, dex (cen [] [] 8 0 (section_Within_x v41) (section_Within_o v41) [88, 89, 90] [])), (15, dfx true), (16, dex (cen [] [] 8 0 (law10_awake_x v44) (law10_awake_o v44) [95] []))] [] [0, 0, 3, 7, 0, 0, 55, 119, 247, 503, 503, 2039, 4087, 8183, 16383, 32767, 65535, 131071, 262143] 8 ⟨[(6, vb v44)], []⟩ (o1 (And.intro (callS (K := (kx E 98 0)) (b := false) ⟨[(80, va [ci v17.Low, .own 3 0 2 v17.Rows.length]), (81, va [ci a3.X, ci (w64 (a3.X + 1)), ci (w64 (10 * a3.Y)), ci (w64 (10 * (w64 (a3.Y + 1))))])], [(3, ro 0 35 2 v17.Rows.length (rf e_Span v17.Rows))]⟩ (opAt (rg Try.f10 126) 2) [] [] 8 (o1 (Nat.le_refl v17.Rows.length)) rfl (section_Within_ok (Section.mk v17.Low v17.Rows) (Rect.mk (Span.mk a3.X (w64 (a3.X + 1))) (Span.mk (w64 (10 * a3.Y)) (w64 (10 * (w64 (a3.Y + 1)))))) v36 h37) (.inr ⟨(by kernel_rfl), section_Within_f v36⟩) (by kernel_rfl)) (And.intro (callS (K := (kx E 98 0)) ⟨[(84, va [ci a1.Low, tl e_Span default a1.Rows]), (85, va [ci a3.X, ci (w64 (a3.X + 1)), ci (w64 (10 * a3.Y)), ci (w64 (10 * (w64 (a3.Y + 1))))])], []⟩ (opAt (rg Try.f10 126) 6) [] [] 8 o0 rfl (section_Within_ok a1 (Rect.mk (Span.mk a3.X (w64 (a3.X + 1))) (Span.mk (w64 (10 * a3.Y)) (w64 (10 * (w64 (a3.Y + 1)))))) v38 h39) (.inl rfl) (by kernel_rfl)) (And.intro b40 (And.intro (callS (K := (kx E 98 0)) ⟨[(88, vb true), (89, va [ci a2.Low, tl e_Span default a2.Rows]), (90, va [ci a3.X, ci (w64 (a3.X + 1)), ci (w64 (10 * a3.Y)), ci (w64 (10 * (w64 (a3.Y + 1))))])], []⟩ (opAt (rg Try.f10 126) 11) [] [] 8 o0 rfl (section_Within_ok a2 (Rect.mk (Span.mk a3.X (w64 (a3.X + 1))) (Span.mk (w64 (10 * a3.Y)) (w64 (10 * (w64 (a3.Y + 1)))))) v41 h42) (.inl rfl) (by kernel_rfl)) (And.intro b43 (callS (K := (kx E 98 0)) ⟨[(95, vb true)], []⟩ (opAt (rg Try.f10 126) 16) [] [] 8 o0 rfl (law10_awake_ok v44 h45) (.inl rfl) (by kernel_rfl)))))))) (by kernel_rfl) (by kernel_rfl) ?_
                exact J_mk (v44) hm (by kernel_rfl) (by kernel_rfl)
              · replace hm := bif_f b43 hm
                refine R_dr Try.f10 126 7 [] [(2, dex (cen [] [] 8 0 (section_Within_x v36) (section_Within_o v36) [80, 81] [3])), (6, dex (cen [] [] 8 0 (section_Within_x v38) (section_Within_o v38) [84, 85] [])), (8, dfx true), (11, dex (cen [] [] 8 0 (section_Within_x v41) (section_Within_o v41) [88, 89, 90] [])), (15, dfx false)] [] [0, 0, 3, 7, 0, 0, 55, 119, 247, 503, 503, 2039, 4087, 8183, 16383, 32767, 65535, 131071, 262143] 8 ⟨[(6, vb false)], []⟩ (o1 (And.intro (callS (K := (kx E 98 0)) (b := false) ⟨[(80, va [ci v17.Low, .own 3 0 2 v17.Rows.length]), (81, va [ci a3.X, ci (w64 (a3.X + 1)), ci (w64 (10 * a3.Y)), ci (w64 (10 * (w64 (a3.Y + 1))))])], [(3, ro 0 35 2 v17.Rows.length (rf e_Span v17.Rows))]⟩ (opAt (rg Try.f10 126) 2) [] [] 8 (o1 (Nat.le_refl v17.Rows.length)) rfl (section_Within_ok (Section.mk v17.Low v17.Rows) (Rect.mk (Span.mk a3.X (w64 (a3.X + 1))) (Span.mk (w64 (10 * a3.Y)) (w64 (10 * (w64 (a3.Y + 1)))))) v36 h37) (.inr ⟨(by kernel_rfl), section_Within_f v36⟩) (by kernel_rfl)) (And.intro (callS (K := (kx E 98 0)) ⟨[(84, va [ci a1.Low, tl e_Span default a1.Rows]), (85, va [ci a3.X, ci (w64 (a3.X + 1)), ci (w64 (10 * a3.Y)), ci (w64 (10 * (w64 (a3.Y + 1))))])], []⟩ (opAt (rg Try.f10 126) 6) [] [] 8 o0 rfl (section_Within_ok a1 (Rect.mk (Span.mk a3.X (w64 (a3.X + 1))) (Span.mk (w64 (10 * a3.Y)) (w64 (10 * (w64 (a3.Y + 1)))))) v38 h39) (.inl rfl) (by kernel_rfl)) (And.intro b40 (And.intro (callS (K := (kx E 98 0)) ⟨[(88, vb true), (89, va [ci a2.Low, tl e_Span default a2.Rows]), (90, va [ci a3.X, ci (w64 (a3.X + 1)), ci (w64 (10 * a3.Y)), ci (w64 (10 * (w64 (a3.Y + 1))))])], []⟩ (opAt (rg Try.f10 126) 11) [] [] 8 o0 rfl (section_Within_ok a2 (Rect.mk (Span.mk a3.X (w64 (a3.X + 1))) (Span.mk (w64 (10 * a3.Y)) (w64 (10 * (w64 (a3.Y + 1)))))) v41 h42) (.inl rfl) (by kernel_rfl)) b43))))) (by kernel_rfl) (by kernel_rfl) ?_
                exact J_mk (false) hm (by kernel_rfl) (by kernel_rfl)
            · replace hm := bif_f b40 hm
              rcases Bool.eq_false_or_eq_true ((v36 == 10) == false) with b46 | b46
              · replace hm := bif_t b46 hm
                obtain ⟨v47, h48, hm⟩ := bind_s hm
                refine R_dr Try.f10 126 7 [] [(2, dex (cen [] [] 8 0 (section_Within_x v36) (section_Within_o v36) [80, 81] [3])), (6, dex (cen [] [] 8 0 (section_Within_x v38) (section_Within_o v38) [84, 85] [])), (8, dfx false), (15, dfx true), (16, dex (cen [] [] 8 0 (law10_awake_x v47) (law10_awake_o v47) [95] []))] [] [0, 0, 3, 7, 0, 0, 55, 119, 247, 503, 503, 2039, 4087, 8183, 16383, 32767, 65535, 131071, 262143] 8 ⟨[(6, vb v47)], []⟩ (o1 (And.intro (callS (K := (kx E 98 0)) (b := false) ⟨[(80, va [ci v17.Low, .own 3 0 2 v17.Rows.length]), (81, va [ci a3.X, ci (w64 (a3.X + 1)), ci (w64 (10 * a3.Y)), ci (w64 (10 * (w64 (a3.Y + 1))))])], [(3, ro 0 35 2 v17.Rows.length (rf e_Span v17.Rows))]⟩ (opAt (rg Try.f10 126) 2) [] [] 8 (o1 (Nat.le_refl v17.Rows.length)) rfl (section_Within_ok (Section.mk v17.Low v17.Rows) (Rect.mk (Span.mk a3.X (w64 (a3.X + 1))) (Span.mk (w64 (10 * a3.Y)) (w64 (10 * (w64 (a3.Y + 1)))))) v36 h37) (.inr ⟨(by kernel_rfl), section_Within_f v36⟩) (by kernel_rfl)) (And.intro (callS (K := (kx E 98 0)) ⟨[(84, va [ci a1.Low, tl e_Span default a1.Rows]), (85, va [ci a3.X, ci (w64 (a3.X + 1)), ci (w64 (10 * a3.Y)), ci (w64 (10 * (w64 (a3.Y + 1))))])], []⟩ (opAt (rg Try.f10 126) 6) [] [] 8 o0 rfl (section_Within_ok a1 (Rect.mk (Span.mk a3.X (w64 (a3.X + 1))) (Span.mk (w64 (10 * a3.Y)) (w64 (10 * (w64 (a3.Y + 1)))))) v38 h39) (.inl rfl) (by kernel_rfl)) (And.intro b40 (And.intro b46 (callS (K := (kx E 98 0)) ⟨[(95, vb true)], []⟩ (opAt (rg Try.f10 126) 16) [] [] 8 o0 rfl (law10_awake_ok v47 h48) (.inl rfl) (by kernel_rfl))))))) (by kernel_rfl) (by kernel_rfl) ?_
                exact J_mk (v47) hm (by kernel_rfl) (by kernel_rfl)
              · replace hm := bif_f b46 hm
                refine R_dr Try.f10 126 7 [] [(2, dex (cen [] [] 8 0 (section_Within_x v36) (section_Within_o v36) [80, 81] [3])), (6, dex (cen [] [] 8 0 (section_Within_x v38) (section_Within_o v38) [84, 85] [])), (8, dfx false), (15, dfx false)] [] [0, 0, 3, 7, 0, 0, 55, 119, 247, 503, 503, 2039, 4087, 8183, 16383, 32767, 65535, 131071, 262143] 8 ⟨[(6, vb false)], []⟩ (o1 (And.intro (callS (K := (kx E 98 0)) (b := false) ⟨[(80, va [ci v17.Low, .own 3 0 2 v17.Rows.length]), (81, va [ci a3.X, ci (w64 (a3.X + 1)), ci (w64 (10 * a3.Y)), ci (w64 (10 * (w64 (a3.Y + 1))))])], [(3, ro 0 35 2 v17.Rows.length (rf e_Span v17.Rows))]⟩ (opAt (rg Try.f10 126) 2) [] [] 8 (o1 (Nat.le_refl v17.Rows.length)) rfl (section_Within_ok (Section.mk v17.Low v17.Rows) (Rect.mk (Span.mk a3.X (w64 (a3.X + 1))) (Span.mk (w64 (10 * a3.Y)) (w64 (10 * (w64 (a3.Y + 1)))))) v36 h37) (.inr ⟨(by kernel_rfl), section_Within_f v36⟩) (by kernel_rfl)) (And.intro (callS (K := (kx E 98 0)) ⟨[(84, va [ci a1.Low, tl e_Span default a1.Rows]), (85, va [ci a3.X, ci (w64 (a3.X + 1)), ci (w64 (10 * a3.Y)), ci (w64 (10 * (w64 (a3.Y + 1))))])], []⟩ (opAt (rg Try.f10 126) 6) [] [] 8 o0 rfl (section_Within_ok a1 (Rect.mk (Span.mk a3.X (w64 (a3.X + 1))) (Span.mk (w64 (10 * a3.Y)) (w64 (10 * (w64 (a3.Y + 1)))))) v38 h39) (.inl rfl) (by kernel_rfl)) (And.intro b40 b46)))) (by kernel_rfl) (by kernel_rfl) ?_
                exact J_mk (false) hm (by kernel_rfl) (by kernel_rfl)
      · obtain ⟨v19, h20, hm⟩ := bind_s hm
        rcases Bool.eq_false_or_eq_true (v19 != 0) with b21 | b21
        · replace hm := bif_t b21 hm
          refine R_dr Try.f10 60 4 [] [(1, dex (cen [] [] 5 0 (section_Check_x v19) (section_Check_o v19) [41] [3])), (3, dfx true)] [] [0, 1, 3, 7, 15, 15, 15, 111, 255, 511, 1023, 2047, 4095, 8191, 16383, 32767, 65535, 65535, 262143, 65535, 1048575, 2097151, 4194303, 8388607] 5 ⟨[(3, vp 0 0), (4, vp 1 0), (5, vp 2 0), (7, vp 4 0), (64, vb true)], [(0, bx 24 [ci a1.Low, tl e_Span default a1.Rows]), (1, bx 24 [ci a2.Low, tl e_Span default a2.Rows]), (2, bx 46 [ci a3.X, ci a3.Y]), (3, ro 0 35 2 v17.Rows.length (rf e_Span v17.Rows)), (4, bx 24 [ci v17.Low, .own 3 0 2 v17.Rows.length])]⟩ (o1 (And.intro (callS (K := (kx E 98 0)) (b := false) ⟨[(41, va [ci v17.Low, .own 3 0 2 v17.Rows.length])], [(3, ro 0 35 2 v17.Rows.length (rf e_Span v17.Rows))]⟩ (opAt (rg Try.f10 60) 1) [] [] 5 (o1 (Nat.le_refl v17.Rows.length)) rfl (section_Check_ok (Section.mk v17.Low v17.Rows) v19 h20) (.inr ⟨(by kernel_rfl), section_Check_f v19⟩) (by kernel_rfl)) b21)) (by kernel_rfl) (by kernel_rfl) ?_
          exact J_mk (true) hm (by kernel_rfl) (by kernel_rfl)
        · replace hm := bif_f b21 hm
          obtain ⟨v22, h23, hm⟩ := bind_s hm
          obtain ⟨v24, h25, hm⟩ := bind_s hm
          rcases Bool.eq_false_or_eq_true (!v24) with b26 | b26
          · replace hm := bif_t b26 hm
            refine R_dr Try.f10 60 4 [] [(1, dex (cen [] [] 5 0 (section_Check_x v19) (section_Check_o v19) [41] [3])), (3, dfx false), (7, dex (cen [] [] 5 0 (section_Meet_x v22) (section_Meet_o v22) [44, 46, 47] [])), (8, dex (cen [] [] 6 0 (law10_same_x v24) (law10_same_o v24) [44, 45, 48] [3, 5])), (11, dfx true)] [] [0, 1, 3, 7, 15, 15, 15, 111, 255, 511, 1023, 2047, 4095, 8191, 16383, 32767, 65535, 65535, 262143, 65535, 1048575, 2097151, 4194303, 8388607] 5 ⟨[(3, vp 0 0), (4, vp 1 0), (5, vp 2 0), (7, vp 4 0), (64, vb true)], [(0, bx 24 [ci a1.Low, tl e_Span default a1.Rows]), (1, bx 24 [ci a2.Low, tl e_Span default a2.Rows]), (2, bx 46 [ci a3.X, ci a3.Y]), (3, ro 0 35 2 v17.Rows.length (rf e_Span v17.Rows)), (4, bx 24 [ci v17.Low, .own 3 0 2 v17.Rows.length])]⟩ (o1 (And.intro (callS (K := (kx E 98 0)) (b := false) ⟨[(41, va [ci v17.Low, .own 3 0 2 v17.Rows.length])], [(3, ro 0 35 2 v17.Rows.length (rf e_Span v17.Rows))]⟩ (opAt (rg Try.f10 60) 1) [] [] 5 (o1 (Nat.le_refl v17.Rows.length)) rfl (section_Check_ok (Section.mk v17.Low v17.Rows) v19 h20) (.inr ⟨(by kernel_rfl), section_Check_f v19⟩) (by kernel_rfl)) (And.intro b21 (And.intro (callS (K := (kx E 98 0)) ⟨[(44, vb false), (46, va [ci a2.Low, tl e_Span default a2.Rows]), (47, va [ci a1.Low, tl e_Span default a1.Rows])], []⟩ (opAt (rg Try.f10 60) 7) [] [] 5 o0 rfl (section_Meet_ok a2 a1 v22 h23) (.inl rfl) (by kernel_rfl)) (And.intro (callS (K := (kx E 98 0)) (b := false) ⟨[(44, vb false), (45, va [ci v17.Low, .own 3 0 2 v17.Rows.length]), (48, va [ci v22.Low, .own 5 0 2 v22.Rows.length])], [(3, ro 0 35 2 v17.Rows.length (rf e_Span v17.Rows)), (5, ro 0 35 2 v22.Rows.length (rf e_Span v22.Rows))]⟩ (opAt (rg Try.f10 60) 8) [] [] 6 (o1 (And.intro (Nat.le_refl v17.Rows.length) (Nat.le_refl v22.Rows.length))) rfl (law10_same_ok (Section.mk v17.Low v17.Rows) (Section.mk v22.Low v22.Rows) v24 h25) (.inr ⟨(by kernel_rfl), law10_same_f v24⟩) (by kernel_rfl)) b26))))) (by kernel_rfl) (by kernel_rfl) ?_
            exact J_mk (true) hm (by kernel_rfl) (by kernel_rfl)
          · replace hm := bif_f b26 hm
            obtain ⟨v27, h28, hm⟩ := bind_s hm
            rcases Bool.eq_false_or_eq_true (v27 == 0) with b29 | b29
            · replace hm := bif_t b29 hm
              obtain ⟨v30, h31, hm⟩ := bind_s hm
              obtain ⟨v32, h33, hm⟩ := bind_s hm
              refine R_dr Try.f10 60 4 [] [(1, dex (cen [] [] 5 0 (section_Check_x v19) (section_Check_o v19) [41] [3])), (3, dfx false), (7, dex (cen [] [] 5 0 (section_Meet_x v22) (section_Meet_o v22) [44, 46, 47] [])), (8, dex (cen [] [] 6 0 (law10_same_x v24) (law10_same_o v24) [44, 45, 48] [3, 5])), (11, dfx false), (13, dex (cen [] [] 6 0 (section_Check_x v27) (section_Check_o v27) [52, 53] [])), (15, dfx true), (18, dex (cen [] [] 6 0 (section_Meet_x v30) (section_Meet_o v30) [56, 57, 58] [])), (20, dex (cen [] [] 7 0 (law10_same_x v32) (law10_same_o v32) [56, 59, 60] [6]))] [] [0, 1, 3, 7, 15, 15, 15, 111, 255, 511, 1023, 2047, 4095, 8191, 16383, 32767, 65535, 65535, 262143, 65535, 1048575, 2097151, 4194303, 8388607] 5 ⟨[(3, vp 0 0), (4, vp 1 0), (5, vp 2 0), (7, vp 4 0), (64, vb (!v32))], [(0, bx 24 [ci a1.Low, tl e_Span default a1.Rows]), (1, bx 24 [ci a2.Low, tl e_Span default a2.Rows]), (2, bx 46 [ci a3.X, ci a3.Y]), (3, ro 0 35 2 v17.Rows.length (rf e_Span v17.Rows)), (4, bx 24 [ci v17.Low, .own 3 0 2 v17.Rows.length])]⟩ (o1 (And.intro (callS (K := (kx E 98 0)) (b := false) ⟨[(41, va [ci v17.Low, .own 3 0 2 v17.Rows.length])], [(3, ro 0 35 2 v17.Rows.length (rf e_Span v17.Rows))]⟩ (opAt (rg Try.f10 60) 1) [] [] 5 (o1 (Nat.le_refl v17.Rows.length)) rfl (section_Check_ok (Section.mk v17.Low v17.Rows) v19 h20) (.inr ⟨(by kernel_rfl), section_Check_f v19⟩) (by kernel_rfl)) (And.intro b21 (And.intro (callS (K := (kx E 98 0)) ⟨[(44, vb false), (46, va [ci a2.Low, tl e_Span default a2.Rows]), (47, va [ci a1.Low, tl e_Span default a1.Rows])], []⟩ (opAt (rg Try.f10 60) 7) [] [] 5 o0 rfl (section_Meet_ok a2 a1 v22 h23) (.inl rfl) (by kernel_rfl)) (And.intro (callS (K := (kx E 98 0)) (b := false) ⟨[(44, vb false), (45, va [ci v17.Low, .own 3 0 2 v17.Rows.length]), (48, va [ci v22.Low, .own 5 0 2 v22.Rows.length])], [(3, ro 0 35 2 v17.Rows.length (rf e_Span v17.Rows)), (5, ro 0 35 2 v22.Rows.length (rf e_Span v22.Rows))]⟩ (opAt (rg Try.f10 60) 8) [] [] 6 (o1 (And.intro (Nat.le_refl v17.Rows.length) (Nat.le_refl v22.Rows.length))) rfl (law10_same_ok (Section.mk v17.Low v17.Rows) (Section.mk v22.Low v22.Rows) v24 h25) (.inr ⟨(by kernel_rfl), law10_same_f v24⟩) (by kernel_rfl)) (And.intro b26 (And.intro (callS (K := (kx E 98 0)) ⟨[(52, vb false), (53, va [ci a1.Low, tl e_Span default a1.Rows])], []⟩ (opAt (rg Try.f10 60) 13) [] [] 6 o0 rfl (section_Check_ok a1 v27 h28) (.inl rfl) (by kernel_rfl)) (And.intro b29 (And.intro (callS (K := (kx E 98 0)) ⟨[(56, vb true), (57, va [ci a1.Low, tl e_Span default a1.Rows]), (58, va [ci a1.Low, tl e_Span default a1.Rows])], []⟩ (opAt (rg Try.f10 60) 18) [] [] 6 o0 rfl (section_Meet_ok a1 a1 v30 h31) (.inl rfl) (by kernel_rfl)) (callS (K := (kx E 98 0)) (b := false) ⟨[(56, vb true), (59, va [ci v30.Low, .own 6 0 2 v30.Rows.length]), (60, va [ci a1.Low, tl e_Span default a1.Rows])], [(6, ro 0 35 2 v30.Rows.length (rf e_Span v30.Rows))]⟩ (opAt (rg Try.f10 60) 20) [] [] 7 (o1 (Nat.le_refl v30.Rows.length)) rfl (law10_same_ok (Section.mk v30.Low v30.Rows) a1 v32 h33) (.inr ⟨(by kernel_rfl), law10_same_f v32⟩) (by kernel_rfl))))))))))) (by kernel_rfl) (by kernel_rfl) ?_
              exact J_mk (!v32) hm (by kernel_rfl) (by kernel_rfl)
            · replace hm := bif_f b29 hm
              refine R_dr Try.f10 60 4 [] [(1, dex (cen [] [] 5 0 (section_Check_x v19) (section_Check_o v19) [41] [3])), (3, dfx false), (7, dex (cen [] [] 5 0 (section_Meet_x v22) (section_Meet_o v22) [44, 46, 47] [])), (8, dex (cen [] [] 6 0 (law10_same_x v24) (law10_same_o v24) [44, 45, 48] [3, 5])), (11, dfx false), (13, dex (cen [] [] 6 0 (section_Check_x v27) (section_Check_o v27) [52, 53] [])), (15, dfx false)] [] [0, 1, 3, 7, 15, 15, 15, 111, 255, 511, 1023, 2047, 4095, 8191, 16383, 32767, 65535, 65535, 262143, 65535, 1048575, 2097151, 4194303, 8388607] 5 ⟨[(3, vp 0 0), (4, vp 1 0), (5, vp 2 0), (7, vp 4 0), (64, vb false)], [(0, bx 24 [ci a1.Low, tl e_Span default a1.Rows]), (1, bx 24 [ci a2.Low, tl e_Span default a2.Rows]), (2, bx 46 [ci a3.X, ci a3.Y]), (3, ro 0 35 2 v17.Rows.length (rf e_Span v17.Rows)), (4, bx 24 [ci v17.Low, .own 3 0 2 v17.Rows.length])]⟩ (o1 (And.intro (callS (K := (kx E 98 0)) (b := false) ⟨[(41, va [ci v17.Low, .own 3 0 2 v17.Rows.length])], [(3, ro 0 35 2 v17.Rows.length (rf e_Span v17.Rows))]⟩ (opAt (rg Try.f10 60) 1) [] [] 5 (o1 (Nat.le_refl v17.Rows.length)) rfl (section_Check_ok (Section.mk v17.Low v17.Rows) v19 h20) (.inr ⟨(by kernel_rfl), section_Check_f v19⟩) (by kernel_rfl)) (And.intro b21 (And.intro (callS (K := (kx E 98 0)) ⟨[(44, vb false), (46, va [ci a2.Low, tl e_Span default a2.Rows]), (47, va [ci a1.Low, tl e_Span default a1.Rows])], []⟩ (opAt (rg Try.f10 60) 7) [] [] 5 o0 rfl (section_Meet_ok a2 a1 v22 h23) (.inl rfl) (by kernel_rfl)) (And.intro (callS (K := (kx E 98 0)) (b := false) ⟨[(44, vb false), (45, va [ci v17.Low, .own 3 0 2 v17.Rows.length]), (48, va [ci v22.Low, .own 5 0 2 v22.Rows.length])], [(3, ro 0 35 2 v17.Rows.length (rf e_Span v17.Rows)), (5, ro 0 35 2 v22.Rows.length (rf e_Span v22.Rows))]⟩ (opAt (rg Try.f10 60) 8) [] [] 6 (o1 (And.intro (Nat.le_refl v17.Rows.length) (Nat.le_refl v22.Rows.length))) rfl (law10_same_ok (Section.mk v17.Low v17.Rows) (Section.mk v22.Low v22.Rows) v24 h25) (.inr ⟨(by kernel_rfl), law10_same_f v24⟩) (by kernel_rfl)) (And.intro b26 (And.intro (callS (K := (kx E 98 0)) ⟨[(52, vb false), (53, va [ci a1.Low, tl e_Span default a1.Rows])], []⟩ (opAt (rg Try.f10 60) 13) [] [] 6 o0 rfl (section_Check_ok a1 v27 h28) (.inl rfl) (by kernel_rfl)) b29))))))) (by kernel_rfl) (by kernel_rfl) ?_
              exact J_mk (false) hm (by kernel_rfl) (by kernel_rfl)
  · obtain ⟨v4, h5, hm⟩ := bind_s hm
    rcases Bool.eq_false_or_eq_true (!v4) with b6 | b6
    · replace hm := bif_t b6 hm
      refine R_rn Try.f10 12 1 [(1, dex (cen [] [] 3 0 (law10_few_x v4) (law10_few_o v4) [9] [])), (3, dfx true)] [] 3 ⟨[(3, vp 0 0), (4, vp 1 0), (5, vp 2 0), (36, vb true)], [(0, bx 24 [ci a1.Low, tl e_Span default a1.Rows]), (1, bx 24 [ci a2.Low, tl e_Span default a2.Rows]), (2, bx 46 [ci a3.X, ci a3.Y])]⟩ (o1 (And.intro (callS (K := (kx E 98 0)) ⟨[(9, va [ci a1.Low, tl e_Span default a1.Rows])], []⟩ (opAt (rg Try.f10 12) 1) [] [] 3 o0 rfl (law10_few_ok a1 v4 h5) (.inl rfl) (by kernel_rfl)) b6)) (by kernel_rfl) (by kernel_rfl) ?_
      exact J_mk (true) hm (by kernel_rfl) (by kernel_rfl)
    · replace hm := bif_f b6 hm
      obtain ⟨v7, h8, hm⟩ := bind_s hm
      rcases Bool.eq_false_or_eq_true (!v7) with b9 | b9
      · replace hm := bif_t b9 hm
        refine R_rn Try.f10 12 1 [(1, dex (cen [] [] 3 0 (law10_few_x v4) (law10_few_o v4) [9] [])), (3, dfx false), (5, dex (cen [] [] 3 0 (law10_few_x v7) (law10_few_o v7) [12, 13] [])), (8, dfx true)] [] 3 ⟨[(3, vp 0 0), (4, vp 1 0), (5, vp 2 0), (36, vb true)], [(0, bx 24 [ci a1.Low, tl e_Span default a1.Rows]), (1, bx 24 [ci a2.Low, tl e_Span default a2.Rows]), (2, bx 46 [ci a3.X, ci a3.Y])]⟩ (o1 (And.intro (callS (K := (kx E 98 0)) ⟨[(9, va [ci a1.Low, tl e_Span default a1.Rows])], []⟩ (opAt (rg Try.f10 12) 1) [] [] 3 o0 rfl (law10_few_ok a1 v4 h5) (.inl rfl) (by kernel_rfl)) (And.intro b6 (And.intro (callS (K := (kx E 98 0)) ⟨[(12, vb false), (13, va [ci a2.Low, tl e_Span default a2.Rows])], []⟩ (opAt (rg Try.f10 12) 5) [] [] 3 o0 rfl (law10_few_ok a2 v7 h8) (.inl rfl) (by kernel_rfl)) b9)))) (by kernel_rfl) (by kernel_rfl) ?_
        exact J_mk (true) hm (by kernel_rfl) (by kernel_rfl)
      · replace hm := bif_f b9 hm
        rcases Bool.eq_false_or_eq_true (decide (a3.X < (-1000))) with b10 | b10
        · replace hm := bif_t b10 hm
          refine R_rn Try.f10 12 1 [(1, dex (cen [] [] 3 0 (law10_few_x v4) (law10_few_o v4) [9] [])), (3, dfx false), (5, dex (cen [] [] 3 0 (law10_few_x v7) (law10_few_o v7) [12, 13] [])), (8, dfx false), (13, dfx true)] [] 3 ⟨[(3, vp 0 0), (4, vp 1 0), (5, vp 2 0), (36, vb true)], [(0, bx 24 [ci a1.Low, tl e_Span default a1.Rows]), (1, bx 24 [ci a2.Low, tl e_Span default a2.Rows]), (2, bx 46 [ci a3.X, ci a3.Y])]⟩ (o1 (And.intro (callS (K := (kx E 98 0)) ⟨[(9, va [ci a1.Low, tl e_Span default a1.Rows])], []⟩ (opAt (rg Try.f10 12) 1) [] [] 3 o0 rfl (law10_few_ok a1 v4 h5) (.inl rfl) (by kernel_rfl)) (And.intro b6 (And.intro (callS (K := (kx E 98 0)) ⟨[(12, vb false), (13, va [ci a2.Low, tl e_Span default a2.Rows])], []⟩ (opAt (rg Try.f10 12) 5) [] [] 3 o0 rfl (law10_few_ok a2 v7 h8) (.inl rfl) (by kernel_rfl)) (And.intro b9 b10))))) (by kernel_rfl) (by kernel_rfl) ?_
          exact J_mk (true) hm (by kernel_rfl) (by kernel_rfl)
        · replace hm := bif_f b10 hm
          rcases Bool.eq_false_or_eq_true (decide (a3.X > 1000)) with b11 | b11
          · replace hm := bif_t b11 hm
            refine R_rn Try.f10 12 1 [(1, dex (cen [] [] 3 0 (law10_few_x v4) (law10_few_o v4) [9] [])), (3, dfx false), (5, dex (cen [] [] 3 0 (law10_few_x v7) (law10_few_o v7) [12, 13] [])), (8, dfx false), (13, dfx false), (18, dfx true)] [] 3 ⟨[(3, vp 0 0), (4, vp 1 0), (5, vp 2 0), (36, vb true)], [(0, bx 24 [ci a1.Low, tl e_Span default a1.Rows]), (1, bx 24 [ci a2.Low, tl e_Span default a2.Rows]), (2, bx 46 [ci a3.X, ci a3.Y])]⟩ (o1 (And.intro (callS (K := (kx E 98 0)) ⟨[(9, va [ci a1.Low, tl e_Span default a1.Rows])], []⟩ (opAt (rg Try.f10 12) 1) [] [] 3 o0 rfl (law10_few_ok a1 v4 h5) (.inl rfl) (by kernel_rfl)) (And.intro b6 (And.intro (callS (K := (kx E 98 0)) ⟨[(12, vb false), (13, va [ci a2.Low, tl e_Span default a2.Rows])], []⟩ (opAt (rg Try.f10 12) 5) [] [] 3 o0 rfl (law10_few_ok a2 v7 h8) (.inl rfl) (by kernel_rfl)) (And.intro b9 (And.intro b10 b11)))))) (by kernel_rfl) (by kernel_rfl) ?_
            exact J_mk (true) hm (by kernel_rfl) (by kernel_rfl)
          · replace hm := bif_f b11 hm
            rcases Bool.eq_false_or_eq_true (decide (a3.Y < (-100))) with b12 | b12
            · replace hm := bif_t b12 hm
              refine R_rn Try.f10 12 1 [(1, dex (cen [] [] 3 0 (law10_few_x v4) (law10_few_o v4) [9] [])), (3, dfx false), (5, dex (cen [] [] 3 0 (law10_few_x v7) (law10_few_o v7) [12, 13] [])), (8, dfx false), (13, dfx false), (18, dfx false), (23, dfx true)] [] 3 ⟨[(3, vp 0 0), (4, vp 1 0), (5, vp 2 0), (36, vb true)], [(0, bx 24 [ci a1.Low, tl e_Span default a1.Rows]), (1, bx 24 [ci a2.Low, tl e_Span default a2.Rows]), (2, bx 46 [ci a3.X, ci a3.Y])]⟩ (o1 (And.intro (callS (K := (kx E 98 0)) ⟨[(9, va [ci a1.Low, tl e_Span default a1.Rows])], []⟩ (opAt (rg Try.f10 12) 1) [] [] 3 o0 rfl (law10_few_ok a1 v4 h5) (.inl rfl) (by kernel_rfl)) (And.intro b6 (And.intro (callS (K := (kx E 98 0)) ⟨[(12, vb false), (13, va [ci a2.Low, tl e_Span default a2.Rows])], []⟩ (opAt (rg Try.f10 12) 5) [] [] 3 o0 rfl (law10_few_ok a2 v7 h8) (.inl rfl) (by kernel_rfl)) (And.intro b9 (And.intro b10 (And.intro b11 b12))))))) (by kernel_rfl) (by kernel_rfl) ?_
              exact J_mk (true) hm (by kernel_rfl) (by kernel_rfl)
            · replace hm := bif_f b12 hm
              refine R_rn Try.f10 12 1 [(1, dex (cen [] [] 3 0 (law10_few_x v4) (law10_few_o v4) [9] [])), (3, dfx false), (5, dex (cen [] [] 3 0 (law10_few_x v7) (law10_few_o v7) [12, 13] [])), (8, dfx false), (13, dfx false), (18, dfx false), (23, dfx false)] [] 3 ⟨[(3, vp 0 0), (4, vp 1 0), (5, vp 2 0), (36, vb (decide (a3.Y > 100)))], [(0, bx 24 [ci a1.Low, tl e_Span default a1.Rows]), (1, bx 24 [ci a2.Low, tl e_Span default a2.Rows]), (2, bx 46 [ci a3.X, ci a3.Y])]⟩ (o1 (And.intro (callS (K := (kx E 98 0)) ⟨[(9, va [ci a1.Low, tl e_Span default a1.Rows])], []⟩ (opAt (rg Try.f10 12) 1) [] [] 3 o0 rfl (law10_few_ok a1 v4 h5) (.inl rfl) (by kernel_rfl)) (And.intro b6 (And.intro (callS (K := (kx E 98 0)) ⟨[(12, vb false), (13, va [ci a2.Low, tl e_Span default a2.Rows])], []⟩ (opAt (rg Try.f10 12) 5) [] [] 3 o0 rfl (law10_few_ok a2 v7 h8) (.inl rfl) (by kernel_rfl)) (And.intro b9 (And.intro b10 (And.intro b11 b12))))))) (by kernel_rfl) (by kernel_rfl) ?_
              exact J_mk (decide (a3.Y > 100)) hm (by kernel_rfl) (by kernel_rfl)

end Saw
end Go.SL
