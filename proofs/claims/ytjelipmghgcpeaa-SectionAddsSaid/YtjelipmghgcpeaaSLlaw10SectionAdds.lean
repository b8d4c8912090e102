import Derived.Test.YtjelipmghgcpeaaSBase
import Derived.Test.YtjelipmghgcpeaaSLs
import Derived.Test.YtjelipmghgcpeaaSLlaw10awake
import Derived.Test.YtjelipmghgcpeaaSFa5
import Derived.Test.YtjelipmghgcpeaaSFa4
set_option linter.unusedVariables false
set_option linter.unusedSimpArgs false
namespace Go.SL
namespace Saw
open Go.Proofs
set_option maxHeartbeats 4000000

def law10_SectionAdds_x (r : Bool) : V := vb r

def law10_SectionAdds_o (r : Bool) : List (Nat × (Nat × O)) := []

theorem law10_SectionAdds_f (r : Bool) : Frozen (law10_SectionAdds_o r) := by
  intro i k o h
  unfold law10_SectionAdds_o at h
  cases h

def law10_SectionAdds_k3_S (x41 : Bool) : St :=
  ⟨[(6, vb x41)], []⟩

def law10_SectionAdds_k2_S (a1 : Section) (a2 : Rect) (a3 : Point) (v9 : Int) (x26 : Bool) : St :=
  ⟨[(3, vp 0 0), (4, vp 1 0), (5, vp 2 0), (7, vi v9), (66, vb x26)], [(0, bx 24 [ci a1.Low, tl e_Span default a1.Rows]), (1, bx 37 [ci a2.X.A, ci a2.X.B, ci a2.Y.A, ci a2.Y.B]), (2, bx 46 [ci a3.X, ci a3.Y])]⟩

def law10_SectionAdds_k1_S (a1 : Section) (a2 : Rect) (a3 : Point) (v9 : Int) (x21 : Bool) : St :=
  ⟨[(3, vp 0 0), (4, vp 1 0), (5, vp 2 0), (7, vi v9), (36, vb x21)], [(0, bx 24 [ci a1.Low, tl e_Span default a1.Rows]), (1, bx 37 [ci a2.X.A, ci a2.X.B, ci a2.Y.A, ci a2.Y.B]), (2, bx 46 [ci a3.X, ci a3.Y])]⟩

set_option maxRecDepth 100000 in
theorem law10_SectionAdds_ok (a1 : Section) (a2 : Rect) (a3 : Point) (r : Bool) (hm : law10_SectionAdds a1 a2 a3 = some r) : CtX Try.prog globs 7 0 0 [.agg [ci a1.Low, tl e_Span default a1.Rows], .agg [ci a2.X.A, ci a2.X.B, ci a2.Y.A, ci a2.Y.B], .agg [ci a3.X, ci a3.Y]] [] (law10_SectionAdds_x r) (law10_SectionAdds_o r) := by
  unfold law10_SectionAdds at hm
  refine CtX_of_E (fn := Try.f7) (c := nd Try.f7 1) (nt := 122) (by kernel_rfl) (by kernel_rfl) (by kernel_rfl) (by kernel_rfl) fun E => ?_
  refine R_sq Try.f7 2 3 (by kernel_rfl) ?_
  refine R_rn Try.f7 2 0 [] [] 0 ⟨[(3, vp 0 0), (4, vp 1 0), (5, vp 2 0)], [(0, bx 24 [ci a1.Low, tl e_Span default a1.Rows]), (1, bx 37 [ci a2.X.A, ci a2.X.B, ci a2.Y.A, ci a2.Y.B]), (2, bx 46 [ci a3.X, ci a3.Y])]⟩ o0 (by kernel_rfl) (by kernel_rfl) ?_
  refine R_sq Try.f7 6 7 (by kernel_rfl) ?_
  refine R_sq Try.f7 12 13 (by kernel_rfl) ?_
  obtain ⟨v4, h5, hm⟩ := bind_s hm
  refine R_rn Try.f7 12 1 [(1, dex (cen [] [] 3 0 (law10_few_x v4) (law10_few_o v4) [13] []))] [] 3 ⟨[(3, vp 0 0), (4, vp 1 0), (5, vp 2 0), (15, vb (!v4))], [(0, bx 24 [ci a1.Low, tl e_Span default a1.Rows]), (1, bx 37 [ci a2.X.A, ci a2.X.B, ci a2.Y.A, ci a2.Y.B]), (2, bx 46 [ci a3.X, ci a3.Y])]⟩ (o1 (callS (K := (kx E 122 0)) ⟨[(13, va [ci a1.Low, tl e_Span default a1.Rows])], []⟩ (opAt (rg Try.f7 12) 1) [] [] 3 o0 rfl (law10_few_ok a1 v4 h5) (.inl rfl) (by kernel_rfl))) (by kernel_rfl) (by kernel_rfl) ?_
  refine R_cn Try.f7 (.tmp 15) 26 27 (by kernel_rfl) (!v4) (by kernel_rfl) (fun b6 => ?_) (fun b6 => ?_)
  · replace hm := bif_t b6 hm
    refine R_sq Try.f7 52 53 (by kernel_rfl) ?_
    obtain ⟨v7, h8, hm⟩ := bind_s hm
    refine R_rn Try.f7 52 2 [(0, dex (cen [] [] 3 0 (law10_awake_x v7) (law10_awake_o v7) [] []))] [] 3 ⟨[(6, vb v7)], []⟩ (o1 (callS (K := (kx E 122 0)) ⟨[], []⟩ (opAt (rg Try.f7 52) 0) [] [] 3 o0 rfl (law10_awake_ok v7 h8) (.inl rfl) (by kernel_rfl))) (by kernel_rfl) (by kernel_rfl) ?_
    obtain rfl := Option.some.inj hm
    refine R_ret (by kernel_rfl) ?_
    exact ret_mk (by kernel_rfl) (by kernel_rfl)
  · replace hm := bif_f b6 hm
    refine R_skip (by kernel_rfl) ?_
    refine R_sq Try.f7 14 15 (by kernel_rfl) ?_
    obtain ⟨v9, h10, hm⟩ := bind_s hm
    refine R_rn Try.f7 14 3 [(2, dex (cen [] [] 3 0 (section_Within_x v9) (section_Within_o v9) [17, 18] []))] [] 3 ⟨[(3, vp 0 0), (4, vp 1 0), (5, vp 2 0), (7, vi v9)], [(0, bx 24 [ci a1.Low, tl e_Span default a1.Rows]), (1, bx 37 [ci a2.X.A, ci a2.X.B, ci a2.Y.A, ci a2.Y.B]), (2, bx 46 [ci a3.X, ci a3.Y])]⟩ (o1 (callS (K := (kx E 122 0)) ⟨[(17, va [ci a1.Low, tl e_Span default a1.Rows]), (18, va [ci a2.X.A, ci a2.X.B, ci a2.Y.A, ci a2.Y.B])], []⟩ (opAt (rg Try.f7 14) 2) [] [] 3 o0 rfl (section_Within_ok a1 a2 v9 h10) (.inl rfl) (by kernel_rfl))) (by kernel_rfl) (by kernel_rfl) ?_
    refine R_sq Try.f7 30 31 (by kernel_rfl) ?_
    refine R_join (ι := Bool) (nd Try.f7 60) (nd Try.f7 61) (by kernel_rfl) (fun p => law10_SectionAdds_k1_S a1 a2 a3 v9 p) (fun p => law10_SectionAdds_k1 a1 a2 a3 v9 p = some r) ?_ ?_
    · rintro x21 hm
      show H _ (law10_SectionAdds_k1_S a1 a2 a3 v9 x21) (nd Try.f7 61) _
      refine R_cn Try.f7 (.tmp 36) 122 123 (by kernel_rfl) x21 (by kernel_rfl) (fun b22 => ?_) (fun b22 => ?_)
      · replace hm := bif_t b22 hm
        refine R_sq Try.f7 244 245 (by kernel_rfl) ?_
        refine R_rn Try.f7 244 5 [] [] 3 ⟨[(6, vb false)], []⟩ o0 (by kernel_rfl) (by kernel_rfl) ?_
        obtain rfl := Option.some.inj hm
        refine R_ret (by kernel_rfl) ?_
        exact ret_mk (by kernel_rfl) (by kernel_rfl)
      · replace hm := bif_f b22 hm
        refine R_skip (by kernel_rfl) ?_
        refine R_sq Try.f7 62 63 (by kernel_rfl) ?_
        refine R_join (ι := Bool) (nd Try.f7 124) (nd Try.f7 125) (by kernel_rfl) (fun p => law10_SectionAdds_k2_S a1 a2 a3 v9 p) (fun p => law10_SectionAdds_k2 a1 a2 a3 v9 p = some r) ?_ ?_
        · rintro x26 hm
          show H _ (law10_SectionAdds_k2_S a1 a2 a3 v9 x26) (nd Try.f7 125) _
          refine R_cn Try.f7 (.tmp 66) 250 251 (by kernel_rfl) x26 (by kernel_rfl) (fun b27 => ?_) (fun b27 => ?_)
          · replace hm := bif_t b27 hm
            refine R_sq Try.f7 500 501 (by kernel_rfl) ?_
            obtain ⟨v28, h29, hm⟩ := bind_s hm
            refine R_rn Try.f7 500 7 [(0, dex (cen [] [] 3 0 (law10_awake_x v28) (law10_awake_o v28) [] []))] [] 3 ⟨[(6, vb v28)], []⟩ (o1 (callS (K := (kx E 122 0)) ⟨[], []⟩ (opAt (rg Try.f7 500) 0) [] [] 3 o0 rfl (law10_awake_ok v28 h29) (.inl rfl) (by kernel_rfl))) (by kernel_rfl) (by kernel_rfl) ?_
            obtain rfl := Option.some.inj hm
            refine R_ret (by kernel_rfl) ?_
            exact ret_mk (by kernel_rfl) (by kernel_rfl)
          · replace hm := bif_f b27 hm
            refine R_skip (by kernel_rfl) ?_
            refine R_sq Try.f7 126 127 (by kernel_rfl) ?_
            refine R_dr Try.f7 126 8 [] [] [] [0, 1, 3, 0, 8, 31, 0, 64, 0, 256, 768, 1984, 0, 0, 12351, 32767] 3 ⟨[(3, vp 0 0), (4, vp 1 0), (5, vp 2 0), (7, vi v9), (8, vp 3 0), (9, vp 4 0)], [(0, bx 24 [ci a1.Low, tl e_Span default a1.Rows]), (1, bx 37 [ci a2.X.A, ci a2.X.B, ci a2.Y.A, ci a2.Y.B]), (2, bx 46 [ci a3.X, ci a3.Y]), (3, bx 35 [ci a2.X.A, ci a3.X]), (4, bx 35 [ci a3.X, ci a2.X.B])]⟩ o0 (by kernel_rfl) (by kernel_rfl) ?_
            refine R_sq Try.f7 254 255 (by kernel_rfl) ?_
            refine R_dr Try.f7 254 9 [] [] [] [0, 1, 3, 0, 8, 31, 0, 64, 0, 256, 768, 1984, 0, 0, 12351, 32767] 5 ⟨[(3, vp 0 0), (7, vi v9), (8, vp 3 0), (9, vp 4 0), (10, vp 5 0), (11, vp 6 0)], [(0, bx 24 [ci a1.Low, tl e_Span default a1.Rows]), (3, bx 35 [ci a2.X.A, ci a3.X]), (4, bx 35 [ci a3.X, ci a2.X.B]), (5, bx 35 [ci a2.Y.A, ci a3.Y]), (6, bx 35 [ci a3.Y, ci a2.Y.B])]⟩ o0 (by kernel_rfl) (by kernel_rfl) ?_
            refine R_sq Try.f7 510 511 (by kernel_rfl) ?_
            obtain ⟨v30, h31, hm⟩ := bind_s hm
            obtain ⟨v32, h33, hm⟩ := bind_s hm
            refine R_dr Try.f7 510 10 [] [(4, dex (cen [] [] 7 0 (section_Within_x v30) (section_Within_o v30) [92, 95] [])), (9, dex (cen [] [] 7 0 (section_Within_x v32) (section_Within_o v32) [97, 100] []))] [] [0, 0, 0, 6, 15, 0, 0, 0, 192, 511, 1023, 2047] 7 ⟨[(3, vp 0 0), (7, vi v9), (8, vp 3 0), (9, vp 4 0), (11, vp 6 0), (12, vi (w64 (v30 + v32)))], [(0, bx 24 [ci a1.Low, tl e_Span default a1.Rows]), (3, bx 35 [ci a2.X.A, ci a3.X]), (4, bx 35 [ci a3.X, ci a2.X.B]), (6, bx 35 [ci a3.Y, ci a2.Y.B])]⟩ (o1 (And.intro (callS (K := (kx E 122 0)) ⟨[(92, va [ci a1.Low, tl e_Span default a1.Rows]), (95, va [ci a2.X.A, ci a3.X, ci a2.Y.A, ci a3.Y])], []⟩ (opAt (rg Try.f7 510) 4) [] [] 7 o0 rfl (section_Within_ok a1 (Rect.mk (Span.mk a2.X.A a3.X) (Span.mk a2.Y.A a3.Y)) v30 h31) (.inl rfl) (by kernel_rfl)) (callS (K := (kx E 122 0)) ⟨[(97, va [ci a1.Low, tl e_Span default a1.Rows]), (100, va [ci a3.X, ci a2.X.B, ci a2.Y.A, ci a3.Y])], []⟩ (opAt (rg Try.f7 510) 9) [] [] 7 o0 rfl (section_Within_ok a1 (Rect.mk (Span.mk a3.X a2.X.B) (Span.mk a2.Y.A a3.Y)) v32 h33) (.inl rfl) (by kernel_rfl)))) (by kernel_rfl) (by kernel_rfl) ?_
            refine R_sq Try.f7 1022 1023 (by kernel_rfl) ?_
            obtain ⟨v34, h35, hm⟩ := bind_s hm
            obtain ⟨v36, h37, hm⟩ := bind_s hm
            refine R_dr Try.f7 1022 11 [] [(5, dex (cen [] [] 7 0 (section_Within_x v34) (section_Within_o v34) [104, 107] [])), (11, dex (cen [] [] 7 0 (section_Within_x v36) (section_Within_o v36) [110, 113] []))] [] [0, 0, 0, 0, 12, 30, 63, 0, 0, 0, 768, 1982, 4095, 8191] 7 ⟨[(7, vi v9), (12, vi (w64 ((w64 ((w64 (v30 + v32)) + v34)) + v36)))], []⟩ (o1 (And.intro (callS (K := (kx E 122 0)) ⟨[(104, va [ci a1.Low, tl e_Span default a1.Rows]), (107, va [ci a2.X.A, ci a3.X, ci a3.Y, ci a2.Y.B])], []⟩ (opAt (rg Try.f7 1022) 5) [] [] 7 o0 rfl (section_Within_ok a1 (Rect.mk (Span.mk a2.X.A a3.X) (Span.mk a3.Y a2.Y.B)) v34 h35) (.inl rfl) (by kernel_rfl)) (callS (K := (kx E 122 0)) ⟨[(110, va [ci a1.Low, tl e_Span default a1.Rows]), (113, va [ci a3.X, ci a2.X.B, ci a3.Y, ci a2.Y.B])], []⟩ (opAt (rg Try.f7 1022) 11) [] [] 7 o0 rfl (section_Within_ok a1 (Rect.mk (Span.mk a3.X a2.X.B) (Span.mk a3.Y a2.Y.B)) v36 h37) (.inl rfl) (by kernel_rfl)))) (by kernel_rfl) (by kernel_rfl) ?_
            refine R_join (ι := Bool) (nd Try.f7 2046) (nd Try.f7 2047) (by kernel_rfl) (fun p => law10_SectionAdds_k3_S p) (fun p => law10_SectionAdds_k3 p = some r) ?_ ?_
            · rintro x41 hm
              show H _ (law10_SectionAdds_k3_S x41) (nd Try.f7 2047) _
              obtain rfl := Option.some.inj hm
              refine R_ret (by kernel_rfl) ?_
              exact ret_mk (by kernel_rfl) (by kernel_rfl)
            · rcases Bool.eq_false_or_eq_true ((w64 ((w64 ((w64 (v30 + v32)) + v34)) + v36)) == v9) with b38 | b38
              · replace hm := bif_t b38 hm
                obtain ⟨v39, h40, hm⟩ := bind_s hm
                refine R_rn Try.f7 2046 12 [(3, dfx true), (4, dex (cen [] [] 7 0 (law10_awake_x v39) (law10_awake_o v39) [119] []))] [] 7 ⟨[(6, vb v39)], []⟩ (o1 (And.intro b38 (callS (K := (kx E 122 0)) ⟨[(119, vb true)], []⟩ (opAt (rg Try.f7 2046) 4) [] [] 7 o0 rfl (law10_awake_ok v39 h40) (.inl rfl) (by kernel_rfl)))) (by kernel_rfl) (by kernel_rfl) ?_
                exact J_mk (v39) hm (by kernel_rfl) (by kernel_rfl)
              · replace hm := bif_f b38 hm
                refine R_rn Try.f7 2046 12 [(3, dfx false)] [] 7 ⟨[(6, vb false)], []⟩ (o1 b38) (by kernel_rfl) (by kernel_rfl) ?_
                exact J_mk (false) hm (by kernel_rfl) (by kernel_rfl)
        · rcases Bool.eq_false_or_eq_true (decide (a3.X < a2.X.A)) with b23 | b23
          · replace hm := bif_t b23 hm
            refine R_rn Try.f7 124 6 [(6, dfx true)] [] 3 ⟨[(3, vp 0 0), (4, vp 1 0), (5, vp 2 0), (7, vi v9), (66, vb true)], [(0, bx 24 [ci a1.Low, tl e_Span default a1.Rows]), (1, bx 37 [ci a2.X.A, ci a2.X.B, ci a2.Y.A, ci a2.Y.B]), (2, bx 46 [ci a3.X, ci a3.Y])]⟩ (o1 b23) (by kernel_rfl) (by kernel_rfl) ?_
            exact J_mk (true) hm (by kernel_rfl) (by kernel_rfl)
          · replace hm := bif_f b23 hm
            rcases Bool.eq_false_or_eq_true (decide (a3.X > a2.X.B)) with b24 | b24
            · replace hm := bif_t b24 hm
              refine R_rn Try.f7 124 6 [(6, dfx false), (14, dfx true)] [] 3 ⟨[(3, vp 0 0), (4, vp 1 0), (5, vp 2 0), (7, vi v9), (66, vb true)], [(0, bx 24 [ci a1.Low, tl e_Span default a1.Rows]), (1, bx 37 [ci a2.X.A, ci a2.X.B, ci a2.Y.A, ci a2.Y.B]), (2, bx 46 [ci a3.X, ci a3.Y])]⟩ (o1 (And.intro b23 b24)) (by kernel_rfl) (by kernel_rfl) ?_
              exact J_mk (true) hm (by kernel_rfl) (by kernel_rfl)
            · replace hm := bif_f b24 hm
              rcases Bool.eq_false_or_eq_true (decide (a3.Y < a2.Y.A)) with b25 | b25
              · replace hm := bif_t b25 hm
                refine R_rn Try.f7 124 6 [(6, dfx false), (14, dfx false), (22, dfx true)] [] 3 ⟨[(3, vp 0 0), (4, vp 1 0), (5, vp 2 0), (7, vi v9), (66, vb true)], [(0, bx 24 [ci a1.Low, tl e_Span default a1.Rows]), (1, bx 37 [ci a2.X.A, ci a2.X.B, ci a2.Y.A, ci a2.Y.B]), (2, bx 46 [ci a3.X, ci a3.Y])]⟩ (o1 (And.intro b23 (And.intro b24 b25))) (by kernel_rfl) (by kernel_rfl) ?_
                exact J_mk (true) hm (by kernel_rfl) (by kernel_rfl)
              · replace hm := bif_f b25 hm
                refine R_rn Try.f7 124 6 [(6, dfx false), (14, dfx false), (22, dfx false)] [] 3 ⟨[(3, vp 0 0), (4, vp 1 0), (5, vp 2 0), (7, vi v9), (66, vb (decide (a3.Y > a2.Y.B)))], [(0, bx 24 [ci a1.Low, tl e_Span default a1.Rows]), (1, bx 37 [ci a2.X.A, ci a2.X.B, ci a2.Y.A, ci a2.Y.B]), (2, bx 46 [ci a3.X, ci a3.Y])]⟩ (o1 (And.intro b23 (And.intro b24 b25))) (by kernel_rfl) (by kernel_rfl) ?_
                exact J_mk (decide (a3.Y > a2.Y.B)) hm (by kernel_rfl) (by kernel_rfl)
    · rcases Bool.eq_false_or_eq_true (decide (v9 < 0)) with b11 | b11
      · replace hm := bif_t b11 hm
        refine R_dr Try.f7 60 4 [] [(2, dfx true)] [] [0, 1, 3, 7, 7, 23, 63, 127, 255, 511, 511, 1535, 4095, 511, 16383, 32767, 65535] 3 ⟨[(3, vp 0 0), (4, vp 1 0), (5, vp 2 0), (7, vi v9), (36, vb true)], [(0, bx 24 [ci a1.Low, tl e_Span default a1.Rows]), (1, bx 37 [ci a2.X.A, ci a2.X.B, ci a2.Y.A, ci a2.Y.B]), (2, bx 46 [ci a3.X, ci a3.Y])]⟩ (o1 b11) (by kernel_rfl) (by kernel_rfl) ?_
        exact J_mk (true) hm (by kernel_rfl) (by kernel_rfl)
      · replace hm := bif_f b11 hm
        obtain ⟨v12, h13, hm⟩ := bind_s hm
        rcases Bool.eq_false_or_eq_true (decide (v9 > v12)) with b14 | b14
        · replace hm := bif_t b14 hm
          refine R_dr Try.f7 60 4 [] [(2, dfx false), (5, dex (cen [] [] 3 0 (section_Area_x v12) (section_Area_o v12) [22, 24] [])), (8, dfx true)] [] [0, 1, 3, 7, 7, 23, 63, 127, 255, 511, 511, 1535, 4095, 511, 16383, 32767, 65535] 3 ⟨[(3, vp 0 0), (4, vp 1 0), (5, vp 2 0), (7, vi v9), (36, vb true)], [(0, bx 24 [ci a1.Low, tl e_Span default a1.Rows]), (1, bx 37 [ci a2.X.A, ci a2.X.B, ci a2.Y.A, ci a2.Y.B]), (2, bx 46 [ci a3.X, ci a3.Y])]⟩ (o1 (And.intro b11 (And.intro (callS (K := (kx E 122 0)) ⟨[(22, vb false), (24, va [ci a1.Low, tl e_Span default a1.Rows])], []⟩ (opAt (rg Try.f7 60) 5) [] [] 3 o0 rfl (section_Area_ok a1 v12 h13) (.inl rfl) (by kernel_rfl)) b14))) (by kernel_rfl) (by kernel_rfl) ?_
          exact J_mk (true) hm (by kernel_rfl) (by kernel_rfl)
        · replace hm := bif_f b14 hm
          obtain ⟨v15, h16, hm⟩ := bind_s hm
          obtain ⟨v17, h18, hm⟩ := bind_s hm
          obtain ⟨v19, h20, hm⟩ := bind_s hm
          refine R_dr Try.f7 60 4 [] [(2, dfx false), (5, dex (cen [] [] 3 0 (section_Area_x v12) (section_Area_o v12) [22, 24] [])), (8, dfx false), (11, dex (cen [] [] 3 0 (section_Bounds_x v15) (section_Bounds_o v15) [28, 30] [])), (12, dex (cen [] [] 3 0 (section_Within_x v17) (section_Within_o v17) [28, 29, 31] [])), (14, dex (cen [] [] 3 0 (section_Area_x v19) (section_Area_o v19) [28, 33] []))] [] [0, 1, 3, 7, 7, 23, 63, 127, 255, 511, 511, 1535, 4095, 511, 16383, 32767, 65535] 3 ⟨[(3, vp 0 0), (4, vp 1 0), (5, vp 2 0), (7, vi v9), (36, vb (v17 != v19))], [(0, bx 24 [ci a1.Low, tl e_Span default a1.Rows]), (1, bx 37 [ci a2.X.A, ci a2.X.B, ci a2.Y.A, ci a2.Y.B]), (2, bx 46 [ci a3.X, ci a3.Y])]⟩ (o1 (And.intro b11 (And.intro (callS (K := (kx E 122 0)) ⟨[(22, vb false), (24, va [ci a1.Low, tl e_Span default a1.Rows])], []⟩ (opAt (rg Try.f7 60) 5) [] [] 3 o0 rfl (section_Area_ok a1 v12 h13) (.inl rfl) (by kernel_rfl)) (And.intro b14 (And.intro (callS (K := (kx E 122 0)) ⟨[(28, vb false), (30, va [ci a1.Low, tl e_Span default a1.Rows])], []⟩ (opAt (rg Try.f7 60) 11) [] [] 3 o0 rfl (section_Bounds_ok a1 v15 h16) (.inl rfl) (by kernel_rfl)) (And.intro (callS (K := (kx E 122 0)) ⟨[(28, vb false), (29, va [ci a1.Low, tl e_Span default a1.Rows]), (31, va [ci v15.X.A, ci v15.X.B, ci v15.Y.A, ci v15.Y.B])], []⟩ (opAt (rg Try.f7 60) 12) [] [] 3 o0 rfl (section_Within_ok a1 v15 v17 h18) (.inl rfl) (by kernel_rfl)) (callS (K := (kx E 122 0)) ⟨[(28, vb false), (33, va [ci a1.Low, tl e_Span default a1.Rows])], []⟩ (opAt (rg Try.f7 60) 14) [] [] 3 o0 rfl (section_Area_ok a1 v19 h20) (.inl rfl) (by kernel_rfl)))))))) (by kernel_rfl) (by kernel_rfl) ?_
          exact J_mk (v17 != v19) hm (by kernel_rfl) (by kernel_rfl)

end Saw
end Go.SL
