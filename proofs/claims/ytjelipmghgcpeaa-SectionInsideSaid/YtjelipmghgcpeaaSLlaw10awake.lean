import Derived.Test.YtjelipmghgcpeaaSBase
import Derived.Test.YtjelipmghgcpeaaSFa4
import Derived.Test.YtjelipmghgcpeaaSLs
import Derived.Test.YtjelipmghgcpeaaSFa5
import Derived.Test.YtjelipmghgcpeaaSFa6
set_option linter.unusedVariables false
set_option linter.unusedSimpArgs false
namespace Go.SL
namespace Saw
open Go.Proofs
set_option maxHeartbeats 4000000

def law10_awake_x (r : Bool) : V := vb r

def law10_awake_o (r : Bool) : List (Nat × (Nat × O)) := []

theorem law10_awake_f (r : Bool) : Frozen (law10_awake_o r) := by
  intro i k o h
  unfold law10_awake_o at h
  cases h

def law10_awake_k2_S (x71 : Bool) : St :=
  ⟨[(0, vb x71)], []⟩

def law10_awake_k1_S (x15 : Bool) : St :=
  ⟨[(45, vb x15)], []⟩

set_option maxRecDepth 100000 in
theorem law10_awake_ok (r : Bool) (hm : law10_awake = some r) : CtX Try.prog globs 15 0 0 [] [] (law10_awake_x r) (law10_awake_o r) := by
  unfold law10_awake at hm
  refine CtX_of_E (fn := Try.f15) (c := nd Try.f15 1) (nt := 77) (by kernel_rfl) (by kernel_rfl) (by kernel_rfl) (by kernel_rfl) fun E => ?_
  refine R_sq Try.f15 2 3 (by kernel_rfl) ?_
  refine R_rn Try.f15 2 0 [] [] 0 ⟨[], []⟩ o0 (by kernel_rfl) (by kernel_rfl) ?_
  refine R_sq Try.f15 6 7 (by kernel_rfl) ?_
  obtain ⟨v1, h2, hm⟩ := bind_s hm
  refine R_rn Try.f15 6 1 [(3, drw 0 0 (rf e_Point ([(Point.mk (-60) 0), (Point.mk 60 0), (Point.mk 0 60)] : List Point))), (4, dex (cen [] [] 1 0 (section_Of_x v1) (section_Of_o v1) [9] [0]))] [] 0 ⟨[(1, vp 2 0), (2, vi v1.2)], [(1, ro 0 35 2 v1.1.Rows.length (rf e_Span v1.1.Rows)), (2, bx 24 [ci v1.1.Low, .own 1 0 2 v1.1.Rows.length])]⟩ (o1 (And.intro (litP e_Point default 2 (fun _ => rfl) ([(Point.mk (-60) 0), (Point.mk 60 0), (Point.mk 0 60)] : List Point) 3 rfl) (callS (K := (kx E 77 0)) (xs' := [.one (.lst 3 (rf e_Point ([(Point.mk (-60) 0), (Point.mk 60 0), (Point.mk 0 60)] : List Point)))]) (b := false) ⟨[(9, vo 0 0 2 3)], [(0, ro 0 46 2 3 (rf e_Point ([(Point.mk (-60) 0), (Point.mk 60 0), (Point.mk 0 60)] : List Point)))]⟩ (opAt (rg Try.f15 6) 4) [] [] 1 (o1 (Nat.le_refl 3)) (by simp only [tl, rf, show ([(Point.mk (-60) 0), (Point.mk 60 0), (Point.mk 0 60)] : List Point).length = 3 from rfl]) (section_Of_ok ([(Point.mk (-60) 0), (Point.mk 60 0), (Point.mk 0 60)] : List Point) v1 h2) (.inr ⟨(by kernel_rfl), section_Of_f v1⟩) (by kernel_rfl)))) (by kernel_rfl) (by kernel_rfl) ?_
  refine R_sq Try.f15 14 15 (by kernel_rfl) ?_
  obtain ⟨v3, h4, hm⟩ := bind_s hm
  obtain ⟨v5, h6, hm⟩ := bind_s hm
  refine R_rn Try.f15 14 2 [(0, dex (cen [] [] 3 0 (law10_sample_x v3) (law10_sample_o v3) [] [])), (1, dex (cen [] [] 4 0 (section_Flip_x v5) (section_Flip_o v5) [13] [3]))] [] 3 ⟨[(1, vp 2 0), (2, vi v1.2), (3, vp 5 0)], [(1, ro 0 35 2 v1.1.Rows.length (rf e_Span v1.1.Rows)), (2, bx 24 [ci v1.1.Low, .own 1 0 2 v1.1.Rows.length]), (4, ro 0 35 2 v5.Rows.length (rf e_Span v5.Rows)), (5, bx 24 [ci v5.Low, .own 4 0 2 v5.Rows.length])]⟩ (o1 (And.intro (callS (K := (kx E 77 0)) ⟨[], []⟩ (opAt (rg Try.f15 14) 0) [] [] 3 o0 rfl (law10_sample_ok v3 h4) (.inl rfl) (by kernel_rfl)) (callS (K := (kx E 77 0)) (b := false) ⟨[(13, va [ci v3.Low, .own 3 0 2 v3.Rows.length])], [(3, ro 0 35 2 v3.Rows.length (rf e_Span v3.Rows))]⟩ (opAt (rg Try.f15 14) 1) [] [] 4 (o1 (Nat.le_refl v3.Rows.length)) rfl (section_Flip_ok (Section.mk v3.Low v3.Rows) v5 h6) (.inr ⟨(by kernel_rfl), section_Flip_f v5⟩) (by kernel_rfl)))) (by kernel_rfl) (by kernel_rfl) ?_
  refine R_sq Try.f15 30 31 (by kernel_rfl) ?_
  refine R_join (ι := Bool) (nd Try.f15 60) (nd Try.f15 61) (by kernel_rfl) (fun p => law10_awake_k1_S p) (fun p => law10_awake_k1 p = some r) ?_ ?_
  · rintro x15 hm
    show H _ (law10_awake_k1_S x15) (nd Try.f15 61) _
    refine R_cn Try.f15 (.tmp 45) 122 123 (by kernel_rfl) x15 (by kernel_rfl) (fun b16 => ?_) (fun b16 => ?_)
    · replace hm := bif_t b16 hm
      refine R_sq Try.f15 244 245 (by kernel_rfl) ?_
      refine R_rn Try.f15 244 4 [] [] 6 ⟨[(0, vb false)], []⟩ o0 (by kernel_rfl) (by kernel_rfl) ?_
      obtain rfl := Option.some.inj hm
      refine R_ret (by kernel_rfl) ?_
      exact ret_mk (by kernel_rfl) (by kernel_rfl)
    · replace hm := bif_f b16 hm
      refine R_skip (by kernel_rfl) ?_
      refine R_sq Try.f15 62 63 (by kernel_rfl) ?_
      refine R_rn Try.f15 62 5 [] [] 6 ⟨[(4, vp 6 0)], [(6, bx 37 [ci 0, ci 100, ci 5, ci 15])]⟩ o0 (by kernel_rfl) (by kernel_rfl) ?_
      refine R_join (ι := Bool) (nd Try.f15 126) (nd Try.f15 127) (by kernel_rfl) (fun p => law10_awake_k2_S p) (fun p => law10_awake_k2 p = some r) ?_ ?_
      · rintro x71 hm
        show H _ (law10_awake_k2_S x71) (nd Try.f15 127) _
        obtain rfl := Option.some.inj hm
        refine R_ret (by kernel_rfl) ?_
        exact ret_mk (by kernel_rfl) (by kernel_rfl)
      · obtain ⟨v43, h44, hm⟩ := bind_s hm
        obtain ⟨v45, h46, hm⟩ := bind_s hm
        rcases Bool.eq_false_or_eq_true (v45 == 2200) with b47 | b47
        · replace hm := bif_t b47 hm
          obtain ⟨v48, h49, hm⟩ := bind_s hm
          obtain ⟨v50, h51, hm⟩ := bind_s hm
          rcases Bool.eq_false_or_eq_true (v50 == 550) with b52 | b52
          · replace hm := bif_t b52 hm
            obtain ⟨v53, h54, hm⟩ := bind_s hm
            obtain ⟨v55, h56, hm⟩ := bind_s hm
            rcases Bool.eq_false_or_eq_true ((v55.Y.A == 0) && ((v55.Y.B == 20) && true)) with b57 | b57
            · replace hm := bif_t b57 hm
              obtain ⟨v58, h59, hm⟩ := bind_s hm
              obtain ⟨v60, h61, hm⟩ := bind_s hm
              obtain ⟨v62, h63, hm⟩ := bind_s hm
              obtain ⟨v64, h65, hm⟩ := bind_s hm
              rcases Bool.eq_false_or_eq_true v64 with b66 | b66
              · replace hm := bif_t b66 hm
                obtain ⟨v67, h68, hm⟩ := bind_s hm
                obtain ⟨v69, h70, hm⟩ := bind_s hm
                refine R_dr Try.f15 126 6 [] [(0, dex (cen [] [] 7 0 (law10_sample_x v43) (law10_sample_o v43) [] [])), (1, dex (cen [] [] 8 0 (section_Area_x v45) (section_Area_o v45) [49] [7])), (3, dfx true), (4, dex (cen [] [] 8 0 (law10_sample_x v48) (law10_sample_o v48) [52] [])), (6, dex (cen [] [] 9 0 (section_Within_x v50) (section_Within_o v50) [52, 53, 54] [8])), (9, dfx true), (10, dex (cen [] [] 9 0 (law10_sample_x v53) (law10_sample_o v53) [58] [])), (11, dex (cen [] [] 10 0 (section_Bounds_x v55) (section_Bounds_o v55) [58, 59] [9])), (16, dfx true), (17, dex (cen [] [] 10 0 (law10_sample_x v58) (law10_sample_o v58) [65] [])), (18, dex (cen [] [] 11 0 (section_Mirror_x v60) (section_Mirror_o v60) [65, 66] [10])), (19, dex (cen [] [] 12 0 (law10_sample_x v62) (law10_sample_o v62) [65] [])), (20, dex (cen [] [] 13 0 (section_Equal_x v64) (section_Equal_o v64) [65, 67, 68] [11, 12])), (22, dfx true), (23, dex (cen [] [] 13 0 (va [ci v67.Low, tl e_Span default v67.Rows]) ([]) [71] [])), (24, dex (cen [] [] 13 0 (section_Shift_x v69) (section_Shift_o v69) [71, 72] []))] [] [0, 1, 3, 7, 15, 15, 63, 127, 255, 511, 1023, 2047, 4095, 1023, 16383, 32767, 65535, 131071, 262143, 524287, 1048575, 2097151, 4194303, 8388607, 16777215, 33554431, 67108863, 134217727, 268435455] 7 ⟨[(0, vb (v69.Low == 2))], []⟩ (o1 (And.intro (callS (K := (kx E 77 0)) ⟨[], []⟩ (opAt (rg Try.f15 126) 0) [] [] 7 o0 rfl (law10_sample_ok v43 h44) (.inl rfl) (by kernel_rfl)) (And.intro (callS (K := (kx E 77 0)) (b := false) ⟨[(49, va [ci v43.Low, .own 7 0 2 v43.Rows.length])], [(7, ro 0 35 2 v43.Rows.length (rf e_Span v43.Rows))]⟩ (opAt (rg Try.f15 126) 1) [] [] 8 (o1 (Nat.le_refl v43.Rows.length)) rfl (section_Area_ok (Section.mk v43.Low v43.Rows) v45 h46) (.inr ⟨(by kernel_rfl), section_Area_f v45⟩) (by kernel_rfl)) (And.intro b47 (And.intro (callS (K := (kx E 77 0)) ⟨[(52, vb true)], []⟩ (opAt (rg Try.f15 126) 4) [] [] 8 o0 rfl (law10_sample_ok v48 h49) (.inl rfl) (by kernel_rfl)) (And.intro (callS (K := (kx E 77 0)) (b := false) ⟨[(52, vb true), (53, va [ci v48.Low, .own 8 0 2 v48.Rows.length]), (54, va [ci 0, ci 100, ci 5, ci 15])], [(8, ro 0 35 2 v48.Rows.length (rf e_Span v48.Rows))]⟩ (opAt (rg Try.f15 126) 6) [] [] 9 (o1 (Nat.le_refl v48.Rows.length)) rfl (section_Within_ok (Section.mk v48.Low v48.Rows) (Rect.mk (Span.mk 0 100) (Span.mk 5 15)) v50 h51) (.inr ⟨(by kernel_rfl), section_Within_f v50⟩) (by kernel_rfl)) (And.intro b52 (And.intro (callS (K := (kx E 77 0)) ⟨[(58, vb true)], []⟩ (opAt (rg Try.f15 126) 10) [] [] 9 o0 rfl (law10_sample_ok v53 h54) (.inl rfl) (by kernel_rfl)) (And.intro (callS (K := (kx E 77 0)) (b := false) ⟨[(58, vb true), (59, va [ci v53.Low, .own 9 0 2 v53.Rows.length])], [(9, ro 0 35 2 v53.Rows.length (rf e_Span v53.Rows))]⟩ (opAt (rg Try.f15 126) 11) [] [] 10 (o1 (Nat.le_refl v53.Rows.length)) rfl (section_Bounds_ok (Section.mk v53.Low v53.Rows) v55 h56) (.inr ⟨(by kernel_rfl), section_Bounds_f v55⟩) (by kernel_rfl)) (And.intro b57 (And.intro (callS (K := (kx E 77 0)) ⟨[(65, vb true)], []⟩ (opAt (rg Try.f15 126) 17) [] [] 10 o0 rfl (law10_sample_ok v58 h59) (.inl rfl) (by kernel_rfl)) (And.intro (callS (K := (kx E 77 0)) (b := false) ⟨[(65, vb true), (66, va [ci v58.Low, .own 10 0 2 v58.Rows.length])], [(10, ro 0 35 2 v58.Rows.length (rf e_Span v58.Rows))]⟩ (opAt (rg Try.f15 126) 18) [] [] 11 (o1 (Nat.le_refl v58.Rows.length)) rfl (section_Mirror_ok (Section.mk v58.Low v58.Rows) v60 h61) (.inr ⟨(by kernel_rfl), section_Mirror_f v60⟩) (by kernel_rfl)) (And.intro (callS (K := (kx E 77 0)) ⟨[(65, vb true)], []⟩ (opAt (rg Try.f15 126) 19) [] [] 12 o0 rfl (law10_sample_ok v62 h63) (.inl rfl) (by kernel_rfl)) (And.intro (callS (K := (kx E 77 0)) (b := false) ⟨[(65, vb true), (67, va [ci v60.Low, .own 11 0 2 v60.Rows.length]), (68, va [ci v62.Low, .own 12 0 2 v62.Rows.length])], [(11, ro 0 35 2 v60.Rows.length (rf e_Span v60.Rows)), (12, ro 0 35 2 v62.Rows.length (rf e_Span v62.Rows))]⟩ (opAt (rg Try.f15 126) 20) [] [] 13 (o1 (And.intro (Nat.le_refl v60.Rows.length) (Nat.le_refl v62.Rows.length))) rfl (section_Equal_ok (Section.mk v60.Low v60.Rows) (Section.mk v62.Low v62.Rows) v64 h65) (.inr ⟨(by kernel_rfl), section_Equal_f v64⟩) (by kernel_rfl)) (And.intro b66 (And.intro (callS (K := (kx E 77 0)) ⟨[(71, vb true)], []⟩ (opAt (rg Try.f15 126) 23) [] [] 13 o0 rfl (CtX.frz (x' := va [ci v67.Low, tl e_Span default v67.Rows]) (ob' := []) (law10_sample_ok v67 h68) 0 (o1 (Nat.le_refl v67.Rows.length)) (by kernel_rfl)) (.inl rfl) (by kernel_rfl)) (callS (K := (kx E 77 0)) ⟨[(71, vb true), (72, va [ci v67.Low, tl e_Span default v67.Rows])], []⟩ (opAt (rg Try.f15 126) 24) [] [] 13 o0 rfl (section_Shift_ok v67 1 2 v69 h70) (.inl rfl) (by kernel_rfl)))))))))))))))))) (by kernel_rfl) (by kernel_rfl) ?_
                exact J_mk (v69.Low == 2) hm (by kernel_rfl) (by kernel_rfl)
              · replace hm := bif_f b66 hm
                refine R_dr Try.f15 126 6 [] [(0, dex (cen [] [] 7 0 (law10_sample_x v43) (law10_sample_o v43) [] [])), (1, dex (cen [] [] 8 0 (section_Area_x v45) (section_Area_o v45) [49] [7])), (3, dfx true), (4, dex (cen [] [] 8 0 (law10_sample_x v48) (law10_sample_o v48) [52] [])), (6, dex (cen [] [] 9 0 (section_Within_x v50) (section_Within_o v50) [52, 53, 54] [8])), (9, dfx true), (10, dex (cen [] [] 9 0 (law10_sample_x v53) (law10_sample_o v53) [58] [])), (11, dex (cen [] [] 10 0 (section_Bounds_x v55) (section_Bounds_o v55) [58, 59] [9])), (16, dfx true), (17, dex (cen [] [] 10 0 (law10_sample_x v58) (law10_sample_o v58) [65] [])), (18, dex (cen [] [] 11 0 (section_Mirror_x v60) (section_Mirror_o v60) [65, 66] [10])), (19, dex (cen [] [] 12 0 (law10_sample_x v62) (law10_sample_o v62) [65] [])), (20, dex (cen [] [] 13 0 (section_Equal_x v64) (section_Equal_o v64) [65, 67, 68] [11, 12])), (22, dfx false)] [] [0, 1, 3, 7, 15, 15, 63, 127, 255, 511, 1023, 2047, 4095, 1023, 16383, 32767, 65535, 131071, 262143, 524287, 1048575, 2097151, 4194303, 8388607, 16777215, 33554431, 67108863, 134217727, 268435455] 7 ⟨[(0, vb false)], []⟩ (o1 (And.intro (callS (K := (kx E 77 0)) ⟨[], []⟩ (opAt (rg Try.f15 126) 0) [] [] 7 o0 rfl (law10_sample_ok v43 h44) (.inl rfl) (by kernel_rfl)) (And.intro (callS (K := (kx E 77 0)) (b := false) ⟨[(49, va [ci v43.Low, .own 7 0 2 v43.Rows.length])], [(7, ro 0 35 2 v43.Rows.length (rf e_Span v43.Rows))]⟩ (opAt (rg Try.f15 126) 1) [] [] 8 (o1 (Nat.le_refl v43.Rows.length)) rfl (section_Area_ok (Section.mk v43.Low v43.Rows) v45 h46) (.inr ⟨(by kernel_rfl), section_Area_f v45⟩) (by kernel_rfl)) (And.intro b47 (And.intro (callS (K := (kx E 77 0)) ⟨[(52, vb true)], []⟩ (opAt (rg Try.f15 126) 4) [] [] 8 o0 rfl (law10_sample_ok v48 h49) (.inl rfl) (by kernel_rfl)) (And.intro (callS (K := (kx E 77 0)) (b := false) ⟨[(52, vb true), (53, va [ci v48.Low, .own 8 0 2 v48.Rows.length]), (54, va [ci 0, ci 100, ci 5, ci 15])], [(8, ro 0 35 2 v48.Rows.length (rf e_Span v48.Rows))]⟩ (opAt (rg Try.f15 126) 6) [] [] 9 (o1 (Nat.le_refl v48.Rows.length)) rfl (section_Within_ok (Section.mk v48.Low v48.Rows) (Rect.mk (Span.mk 0 100) (Span.mk 5 15)) v50 h51) (.inr ⟨(by kernel_rfl), section_Within_f v50⟩) (by kernel_rfl)) (And.intro b52 (And.intro (callS (K := (kx E 77 0)) ⟨[(58, vb true)], []⟩ (opAt (rg Try.f15 126) 10) [] [] 9 o0 rfl (law10_sample_ok v53 h54) (.inl rfl) (by kernel_rfl)) (And.intro (callS (K := (kx E 77 0)) (b := false) ⟨[(58, vb true), (59, va [ci v53.Low, .own 9 0 2 v53.Rows.length])], [(9, ro 0 35 2 v53.Rows.length (rf e_Span v53.Rows))]⟩ (opAt (rg Try.f15 126) 11) [] [] 10 (o1 (Nat.le_refl v53.Rows.length)) rfl (section_Bounds_ok (Section.mk v53.Low v53.Rows) v55 h56) (.inr ⟨(by kernel_rfl), section_Bounds_f v55⟩) (by kernel_rfl)) (And.intro b57 (And.intro (callS (K := (kx E 77 0)) ⟨[(65, vb true)], []⟩ (opAt (rg Try.f15 126) 17) [] [] 10 o0 rfl (law10_sample_ok v58 h59) (.inl rfl) (by kernel_rfl)) (And.intro (callS (K := (kx E 77 0)) (b := false) ⟨[(65, vb true), (66, va [ci v58.Low, .own 10 0 2 v58.Rows.length])], [(10, ro 0 35 2 v58.Rows.length (rf e_Span v58.Rows))]⟩ (opAt (rg Try.f15 126) 18) [] [] 11 (o1 (Nat.le_refl v58.Rows.length)) rfl (section_Mirror_ok (Section.mk v58.Low v58.Rows) v60 h61) (.inr ⟨(by kernel_rfl), section_Mirror_f v60⟩) (by kernel_rfl)) (And.intro (callS (K := (kx E 77 0)) ⟨[(65, vb true)], []⟩ (opAt (rg Try.f15 126) 19) [] [] 12 o0 rfl (law10_sample_ok v62 h63) (.inl rfl) (by kernel_rfl)) (And.intro (callS (K := (kx E 77 0)) (b := false) ⟨[(65, vb true), (67, va [ci v60.Low, .own 11 0 2 v60.Rows.length]), (68, va [ci v62.Low, .own 12 0 2 v62.Rows.length])], [(11, ro 0 35 2 v60.Rows.length (rf e_Span v60.Rows)), (12, ro 0 35 2 v62.Rows.length (rf e_Span v62.Rows))]⟩ (opAt (rg Try.f15 126) 20) [] [] 13 (o1 (And.intro (Nat.le_refl v60.Rows.length) (Nat.le_refl v62.Rows.length))) rfl (section_Equal_ok (Section.mk v60.Low v60.Rows) (Section.mk v62.Low v62.Rows) v64 h65) (.inr ⟨(by kernel_rfl), section_Equal_f v64⟩) (by kernel_rfl)) b66)))))))))))))) (by kernel_rfl) (by kernel_rfl) ?_
                exact J_mk (false) hm (by kernel_rfl) (by kernel_rfl)
            · replace hm := bif_f b57 hm
              refine R_dr Try.f15 126 6 [] [(0, dex (cen [] [] 7 0 (law10_sample_x v43) (law10_sample_o v43) [] [])), (1, dex (cen [] [] 8 0 (section_Area_x v45) (section_Area_o v45) [49] [7])), (3, dfx true), (4, dex (cen [] [] 8 0 (law10_sample_x v48) (law10_sample_o v48) [52] [])), (6, dex (cen [] [] 9 0 (section_Within_x v50) (section_Within_o v50) [52, 53, 54] [8])), (9, dfx true), (10, dex (cen [] [] 9 0 (law10_sample_x v53) (law10_sample_o v53) [58] [])), (11, dex (cen [] [] 10 0 (section_Bounds_x v55) (section_Bounds_o v55) [58, 59] [9])), (16, dfx false)] [] [0, 1, 3, 7, 15, 15, 63, 127, 255, 511, 1023, 2047, 4095, 1023, 16383, 32767, 65535, 131071, 262143, 524287, 1048575, 2097151, 4194303, 8388607, 16777215, 33554431, 67108863, 134217727, 268435455] 7 ⟨[(0, vb false)], []⟩ (o1 (And.intro (callS (K := (kx E 77 0)) ⟨[], []⟩ (opAt (rg Try.f15 126) 0) [] [] 7 o0 rfl (law10_sample_ok v43 h44) (.inl rfl) (by kernel_rfl)) (And.intro (callS (K := (kx E 77 0)) (b := false) ⟨[(49, va [ci v43.Low, .own 7 0 2 v43.Rows.length])], [(7, ro 0 35 2 v43.Rows.length (rf e_Span v43.Rows))]⟩ (opAt (rg Try.f15 126) 1) [] [] 8 (o1 (Nat.le_refl v43.Rows.length)) rfl (section_Area_ok (Section.mk v43.Low v43.Rows) v45 h46) (.inr ⟨(by kernel_rfl), section_Area_f v45⟩) (by kernel_rfl)) (And.intro b47 (And.intro (callS (K := (kx E 77 0)) ⟨[(52, vb true)], []⟩ (opAt (rg Try.f15 126) 4) [] [] 8 o0 rfl (law10_sample_ok v48 h49) (.inl rfl) (by kernel_rfl)) (And.intro (callS (K := (kx E 77 0)) (b := false) ⟨[(52, vb true), (53, va [ci v48.Low, .own 8 0 2 v48.Rows.length]), (54, va [ci 0, ci 100, ci 5, ci 15])], [(8, ro 0 35 2 v48.Rows.length (rf e_Span v48.Rows))]⟩ (opAt (rg Try.f15 126) 6) [] [] 9 (o1 (Nat.le_refl v48.Rows.length)) rfl (section_Within_ok (Section.mk v48.Low v48.Rows) (Rect.mk (Span.mk 0 100) (Span.mk 5 15)) v50 h51) (.inr ⟨(by kernel_rfl), section_Within_f v50⟩) (by kernel_rfl)) (And.intro b52 (And.intro (callS (K := (kx E 77 0)) ⟨[(58, vb true)], []⟩ (opAt (rg Try.f15 126) 10) [] [] 9 o0 rfl (law10_sample_ok v53 h54) (.inl rfl) (by kernel_rfl)) (And.intro (callS (K := (kx E 77 0)) (b := false) ⟨[(58, vb true), (59, va [ci v53.Low, .own 9 0 2 v53.Rows.length])], [(9, ro 0 35 2 v53.Rows.length (rf e_Span v53.Rows))]⟩ (opAt (rg Try.f15 126) 11) [] [] 10 (o1 (Nat.le_refl v53.Rows.length)) rfl (section_Bounds_ok (Section.mk v53.Low v53.Rows) v55 h56) (.inr ⟨(by kernel_rfl), section_Bounds_f v55⟩) (by kernel_rfl)) b57))))))))) (by kernel_rfl) (by kernel_rfl) ?_
              exact J_mk (false) hm (by kernel_rfl) (by kernel_rfl)
          · replace hm := bif_f b52 hm
            refine R_dr Try.f15 126 6 [] [(0, dex (cen [] [] 7 0 (law10_sample_x v43) (law10_sample_o v43) [] [])), (1, dex (cen [] [] 8 0 (section_Area_x v45) (section_Area_o v45) [49] [7])), (3, dfx true), (4, dex (cen [] [] 8 0 (law10_sample_x v48) (law10_sample_o v48) [52] [])), (6, dex (cen [] [] 9 0 (section_Within_x v50) (section_Within_o v50) [52, 53, 54] [8])), (9, dfx false)] [] [0, 1, 3, 7, 15, 15, 63, 127, 255, 511, 1023, 2047, 4095, 1023, 16383, 32767, 65535, 131071, 262143, 524287, 1048575, 2097151, 4194303, 8388607, 16777215, 33554431, 67108863, 134217727, 268435455] 7 ⟨[(0, vb false)], []⟩ (o1 (And.intro (callS (K := (kx E 77 0)) ⟨[], []⟩ (opAt (rg Try.f15 126) 0) [] [] 7 o0 rfl (law10_sample_ok v43 h44) (.inl rfl) (by kernel_rfl)) (And.intro (callS (K := (kx E 77 0)) (b := false) ⟨[(49, va [ci v43.Low, .own 7 0 2 v43.Rows.length])], [(7, ro 0 35 2 v43.Rows.length (rf e_Span v43.Rows))]⟩ (opAt (rg Try.f15 126) 1) [] [] 8 (o1 (Nat.le_refl v43.Rows.length)) rfl (section_Area_ok (Section.mk v43.Low v43.Rows) v45 h46) (.inr ⟨(by kernel_rfl), section_Area_f v45⟩) (by kernel_rfl)) (And.intro b47 (And.intro (callS (K := (kx E 77 0)) ⟨[(52, vb true)], []⟩ (opAt (rg Try.f15 126) 4) [] [] 8 o0 rfl (law10_sample_ok v48 h49) (.inl rfl) (by kernel_rfl)) (And.intro (callS (K := (kx E 77 0)) (b := false) ⟨[(52, vb true), (53, va [ci v48.Low, .own 8 0 2 v48.Rows.length]), (54, va [ci 0, ci 100, ci 5, ci 15])], [(8, ro 0 35 2 v48.Rows.length (rf e_Span v48.Rows))]⟩ (opAt (rg Try.f15 126) 6) [] [] 9 (o1 (Nat.le_refl v48.Rows.length)) rfl (section_Within_ok (Section.mk v48.Low v48.Rows) (Rect.mk (Span.mk 0 100) (Span.mk 5 15)) v50 h51) (.inr ⟨(by kernel_rfl), section_Within_f v50⟩) (by kernel_rfl)) b52)))))) (by kernel_rfl) (by kernel_rfl) ?_
            exact J_mk (false) hm (by kernel_rfl) (by kernel_rfl)
        · replace hm := bif_f b47 hm
          refine R_dr Try.f15 126 6 [] [(0, dex (cen [] [] 7 0 (law10_sample_x v43) (law10_sample_o v43) [] [])), (1, dex (cen [] [] 8 0 (section_Area_x v45) (section_Area_o v45) [49] [7])), (3, dfx false)] [] [0, 1, 3, 7, 15, 15, 63, 127, 255, 511, 1023, 2047, 4095, 1023, 16383, 32767, 65535, 131071, 262143, 524287, 1048575, 2097151, 4194303, 8388607, 16777215, 33554431, 67108863, 134217727, 268435455] 7 ⟨[(0, vb false)], []⟩ (o1 (And.intro (callS (K := (kx E 77 0)) ⟨[], []⟩ (opAt (rg Try.f15 126) 0) [] [] 7 o0 rfl (law10_sample_ok v43 h44) (.inl rfl) (by kernel_rfl)) (And.intro (callS (K := (kx E 77 0)) (b := false) ⟨[(49, va [ci v43.Low, .own 7 0 2 v43.Rows.length])], [(7, ro 0 35 2 v43.Rows.length (rf e_Span v43.Rows))]⟩ (opAt (rg Try.f15 126) 1) [] [] 8 (o1 (Nat.le_refl v43.Rows.length)) rfl (section_Area_ok (Section.mk v43.Low v43.Rows) v45 h46) (.inr ⟨(by kernel_rfl), section_Area_f v45⟩) (by kernel_rfl)) b47))) (by kernel_rfl) (by kernel_rfl) ?_
          exact J_mk (false) hm (by kernel_rfl) (by kernel_rfl)
  · rcases Bool.eq_false_or_eq_true (v1.2 != 0) with b7 | b7
    · replace hm := bif_t b7 hm
      refine R_rn Try.f15 60 3 [(2, dfx true)] [] 6 ⟨[(45, vb true)], []⟩ (o1 b7) (by kernel_rfl) (by kernel_rfl) ?_
      exact J_mk (true) hm (by kernel_rfl) (by kernel_rfl)
    · replace hm := bif_f b7 hm
      rcases Bool.eq_false_or_eq_true (((v1.1.Rows.length : Nat) : Int) != 5) with b8 | b8
      · replace hm := bif_t b8 hm
        refine R_rn Try.f15 60 3 [(2, dfx false), (8, dfx true)] [] 6 ⟨[(45, vb true)], []⟩ (o1 (And.intro b7 b8)) (by kernel_rfl) (by kernel_rfl) ?_
        exact J_mk (true) hm (by kernel_rfl) (by kernel_rfl)
      · replace hm := bif_f b8 hm
        rcases Bool.eq_false_or_eq_true (v1.1.Low != 0) with b9 | b9
        · replace hm := bif_t b9 hm
          refine R_rn Try.f15 60 3 [(2, dfx false), (8, dfx false), (13, dfx true)] [] 6 ⟨[(45, vb true)], []⟩ (o1 (And.intro b7 (And.intro b8 b9))) (by kernel_rfl) (by kernel_rfl) ?_
          exact J_mk (true) hm (by kernel_rfl) (by kernel_rfl)
        · replace hm := bif_f b9 hm
          obtain ⟨g10, hm⟩ := bif_n hm
          rcases Bool.eq_false_or_eq_true (!((((v1.1.Rows.getD ((4 : Int).toNat) default).A) == (-10)) && ((((v1.1.Rows.getD ((4 : Int).toNat) default).B) == 10) && true))) with b11 | b11
          · replace hm := bif_t b11 hm
            refine R_rn Try.f15 60 3 [(2, dfx false), (8, dfx false), (13, dfx false), (21, dfx true)] [] 6 ⟨[(45, vb true)], []⟩ (o1 (And.intro b7 (And.intro b8 (And.intro b9 (And.intro (inb_of g10) (And.intro (toNat_lt (inb_of g10)) b11)))))) (by kernel_rfl) (by kernel_rfl) ?_
            exact J_mk (true) hm (by kernel_rfl) (by kernel_rfl)
          · replace hm := bif_f b11 hm
            obtain ⟨v12, h13, hm⟩ := bind_s hm
            rcases Bool.eq_false_or_eq_true (v12 != 19) with b14 | b14
            · replace hm := bif_t b14 hm
              refine R_rn Try.f15 60 3 [(2, dfx false), (8, dfx false), (13, dfx false), (21, dfx false), (23, dex (cen [] [] 6 0 (section_Check_x v12) (section_Check_o v12) [36, 37] [])), (26, dfx true)] [] 6 ⟨[(45, vb true)], []⟩ (o1 (And.intro b7 (And.intro b8 (And.intro b9 (And.intro (inb_of g10) (And.intro (toNat_lt (inb_of g10)) (And.intro b11 (And.intro (callS (K := (kx E 77 0)) ⟨[(36, vb false), (37, va [ci 5, .emp])], []⟩ (opAt (rg Try.f15 60) 23) [] [] 6 o0 rfl (CtX.emp (xs' := [.agg [ci 5, .emp]]) (section_Check_ok (Section.mk 5 ([] : List Span)) v12 h13) (And.intro (And.intro rfl (And.intro rfl trivial)) trivial)) (.inl rfl) (by kernel_rfl)) b14)))))))) (by kernel_rfl) (by kernel_rfl) ?_
              exact J_mk (true) hm (by kernel_rfl) (by kernel_rfl)
            · replace hm := bif_f b14 hm
              refine R_rn Try.f15 60 3 [(2, dfx false), (8, dfx false), (13, dfx false), (21, dfx false), (23, dex (cen [] [] 6 0 (section_Check_x v12) (section_Check_o v12) [36, 37] [])), (26, dfx false)] [] 6 ⟨[(45, vb (v5.Low != (-2)))], []⟩ (o1 (And.intro b7 (And.intro b8 (And.intro b9 (And.intro (inb_of g10) (And.intro (toNat_lt (inb_of g10)) (And.intro b11 (And.intro (callS (K := (kx E 77 0)) ⟨[(36, vb false), (37, va [ci 5, .emp])], []⟩ (opAt (rg Try.f15 60) 23) [] [] 6 o0 rfl (CtX.emp (xs' := [.agg [ci 5, .emp]]) (section_Check_ok (Section.mk 5 ([] : List Span)) v12 h13) (And.intro (And.intro rfl (And.intro rfl trivial)) trivial)) (.inl rfl) (by kernel_rfl)) b14)))))))) (by kernel_rfl) (by kernel_rfl) ?_
              exact J_mk (v5.Low != (-2)) hm (by kernel_rfl) (by kernel_rfl)

end Saw
end Go.SL
