import Derived.Test.YtjelipmghgcpeaaSBase
import Derived.Test.YtjelipmghgcpeaaSLs
import Derived.Test.YtjelipmghgcpeaaSLlaw10awake
import Derived.Test.YtjelipmghgcpeaaSFa6
import Derived.Test.YtjelipmghgcpeaaSFa9
import Derived.Test.YtjelipmghgcpeaaSLlaw10same
import Derived.Test.YtjelipmghgcpeaaSFa5
import Derived.Test.YtjelipmghgcpeaaSFa4
set_option linter.unusedVariables false
set_option linter.unusedSimpArgs false
namespace Go.SL
namespace Saw
open Go.Proofs
set_option maxHeartbeats 4000000

def law10_SectionMoves_x (r : Bool) : V := vb r

def law10_SectionMoves_o (r : Bool) : List (Nat × (Nat × O)) := []

theorem law10_SectionMoves_f (r : Bool) : Frozen (law10_SectionMoves_o r) := by
  intro i k o h
  unfold law10_SectionMoves_o at h
  cases h

def law10_SectionMoves_k1_S (x32 : Bool) : St :=
  ⟨[(6, vb x32)], []⟩

set_option maxRecDepth 100000 in
theorem law10_SectionMoves_ok (a1 : Section) (a2 : Int) (a3 : Int) (r : Bool) (hm : law10_SectionMoves a1 a2 a3 = some r) : CtX Try.prog globs 6 0 0 [.agg [ci a1.Low, tl e_Span default a1.Rows], .one (ci a2), .one (ci a3)] [] (law10_SectionMoves_x r) (law10_SectionMoves_o r) := by
  unfold law10_SectionMoves at hm
  refine CtX_of_E (fn := Try.f6) (c := nd Try.f6 1) (nt := 37) (by kernel_rfl) (by kernel_rfl) (by kernel_rfl) (by kernel_rfl) fun E => ?_
  refine R_sq Try.f6 2 3 (by kernel_rfl) ?_
  refine R_rn Try.f6 2 0 [] [] 0 ⟨[(1, vi a2), (2, vi a3), (3, vp 0 0)], [(0, bx 24 [ci a1.Low, tl e_Span default a1.Rows])]⟩ o0 (by kernel_rfl) (by kernel_rfl) ?_
  refine R_sq Try.f6 6 7 (by kernel_rfl) ?_
  refine R_sq Try.f6 12 13 (by kernel_rfl) ?_
  obtain ⟨v4, h5, hm⟩ := bind_s hm
  refine R_rn Try.f6 12 1 [(1, dex (cen [] [] 1 0 (law10_few_x v4) (law10_few_o v4) [7] []))] [] 1 ⟨[(1, vi a2), (2, vi a3), (3, vp 0 0), (9, vb (!v4))], [(0, bx 24 [ci a1.Low, tl e_Span default a1.Rows])]⟩ (o1 (callS (K := (kx E 37 0)) ⟨[(7, va [ci a1.Low, tl e_Span default a1.Rows])], []⟩ (opAt (rg Try.f6 12) 1) [] [] 1 o0 rfl (law10_few_ok a1 v4 h5) (.inl rfl) (by kernel_rfl))) (by kernel_rfl) (by kernel_rfl) ?_
  refine R_cn Try.f6 (.tmp 9) 26 27 (by kernel_rfl) (!v4) (by kernel_rfl) (fun b6 => ?_) (fun b6 => ?_)
  · replace hm := bif_t b6 hm
    refine R_sq Try.f6 52 53 (by kernel_rfl) ?_
    obtain ⟨v7, h8, hm⟩ := bind_s hm
    refine R_rn Try.f6 52 2 [(0, dex (cen [] [] 1 0 (law10_awake_x v7) (law10_awake_o v7) [] []))] [] 1 ⟨[(6, vb v7)], []⟩ (o1 (callS (K := (kx E 37 0)) ⟨[], []⟩ (opAt (rg Try.f6 52) 0) [] [] 1 o0 rfl (law10_awake_ok v7 h8) (.inl rfl) (by kernel_rfl))) (by kernel_rfl) (by kernel_rfl) ?_
    obtain rfl := Option.some.inj hm
    refine R_ret (by kernel_rfl) ?_
    exact ret_mk (by kernel_rfl) (by kernel_rfl)
  · replace hm := bif_f b6 hm
    refine R_skip (by kernel_rfl) ?_
    refine R_join (ι := Bool) (nd Try.f6 14) (nd Try.f6 15) (by kernel_rfl) (fun p => law10_SectionMoves_k1_S p) (fun p => law10_SectionMoves_k1 p = some r) ?_ ?_
    · rintro x32 hm
      show H _ (law10_SectionMoves_k1_S x32) (nd Try.f6 15) _
      obtain rfl := Option.some.inj hm
      refine R_ret (by kernel_rfl) ?_
      exact ret_mk (by kernel_rfl) (by kernel_rfl)
    · obtain ⟨v9, h10, hm⟩ := bind_s hm
      obtain ⟨v11, h12, hm⟩ := bind_s hm
      obtain ⟨v13, h14, hm⟩ := bind_s hm
      rcases Bool.eq_false_or_eq_true v13 with b15 | b15
      · replace hm := bif_t b15 hm
        obtain ⟨v16, h17, hm⟩ := bind_s hm
        obtain ⟨v18, h19, hm⟩ := bind_s hm
        obtain ⟨v20, h21, hm⟩ := bind_s hm
        rcases Bool.eq_false_or_eq_true v20 with b22 | b22
        · replace hm := bif_t b22 hm
          obtain ⟨v23, h24, hm⟩ := bind_s hm
          obtain ⟨v25, h26, hm⟩ := bind_s hm
          obtain ⟨v27, h28, hm⟩ := bind_s hm
          rcases Bool.eq_false_or_eq_true v27 with b29 | b29
          · replace hm := bif_t b29 hm
            obtain ⟨v30, h31, hm⟩ := bind_s hm
            refine R_dr Try.f6 14 3 [] [(3, dex (cen [] [] 1 0 (section_Shift_x v9) (section_Shift_o v9) [11, 12, 13] [])), (7, dex (cen [] [] 1 0 (ref10_Shift_x v11) (ref10_Shift_o v11) [15, 16, 17] [])), (8, dex (cen [] [] 1 0 (law10_same_x v13) (law10_same_o v13) [14, 18] [])), (9, dfx true), (11, dex (cen [] [] 1 0 (section_Mirror_x v16) (section_Mirror_o v16) [20, 21] [])), (13, dex (cen [] [] 2 0 (ref10_Mirror_x v18) (ref10_Mirror_o v18) [20, 23] [])), (14, dex (cen [] [] 3 0 (law10_same_x v20) (law10_same_o v20) [20, 22, 24] [1, 2])), (16, dfx true), (18, dex (cen [] [] 3 0 (section_Flip_x v23) (section_Flip_o v23) [27, 28] [])), (20, dex (cen [] [] 4 0 (ref10_Flip_x v25) (ref10_Flip_o v25) [27, 30] [])), (21, dex (cen [] [] 5 0 (law10_same_x v27) (law10_same_o v27) [27, 29, 31] [3, 4])), (23, dfx true), (24, dex (cen [] [] 5 0 (law10_awake_x v30) (law10_awake_o v30) [34] []))] [] [0, 0, 0, 7, 0, 0, 0, 127, 255, 511, 1023, 2047, 1023, 8191, 16383, 32767, 65535, 131071, 262143, 131071, 1048575, 2097151, 4194303, 8388607, 16777215, 33554431, 67108863] 1 ⟨[(6, vb v30)], []⟩ (o1 (And.intro (callS (K := (kx E 37 0)) ⟨[(11, va [ci a1.Low, tl e_Span default a1.Rows]), (12, vi a2), (13, vi a3)], []⟩ (opAt (rg Try.f6 14) 3) [] [] 1 o0 rfl (section_Shift_ok a1 a2 a3 v9 h10) (.inl rfl) (by kernel_rfl)) (And.intro (callS (K := (kx E 37 0)) ⟨[(15, va [ci a1.Low, tl e_Span default a1.Rows]), (16, vi a2), (17, vi a3)], []⟩ (opAt (rg Try.f6 14) 7) [] [] 1 o0 rfl (ref10_Shift_ok a1 a2 a3 v11 h12) (.inl rfl) (by kernel_rfl)) (And.intro (callS (K := (kx E 37 0)) ⟨[(14, va [ci v9.Low, tl e_Span default v9.Rows]), (18, va [ci v11.Low, tl e_Span default v11.Rows])], []⟩ (opAt (rg Try.f6 14) 8) [] [] 1 o0 rfl (law10_same_ok v9 v11 v13 h14) (.inl rfl) (by kernel_rfl)) (And.intro b15 (And.intro (callS (K := (kx E 37 0)) ⟨[(20, vb true), (21, va [ci a1.Low, tl e_Span default a1.Rows])], []⟩ (opAt (rg Try.f6 14) 11) [] [] 1 o0 rfl (section_Mirror_ok a1 v16 h17) (.inl rfl) (by kernel_rfl)) (And.intro (callS (K := (kx E 37 0)) ⟨[(20, vb true), (23, va [ci a1.Low, tl e_Span default a1.Rows])], []⟩ (opAt (rg Try.f6 14) 13) [] [] 2 o0 rfl (ref10_Mirror_ok a1 v18 h19) (.inl rfl) (by kernel_rfl)) (And.intro (callS (K := (kx E 37 0)) (b := false) ⟨[(20, vb true), (22, va [ci v16.Low, .own 1 0 2 v16.Rows.length]), (24, va [ci v18.Low, .own 2 0 2 v18.Rows.length])], [(1, ro 0 35 2 v16.Rows.length (rf e_Span v16.Rows)), (2, ro 0 35 2 v18.Rows.length (rf e_Span v18.Rows))]⟩ (opAt (rg Try.f6 14) 14) [] [] 3 (o1 (And.intro (Nat.le_refl v16.Rows.length) (Nat.le_refl v18.Rows.length))) rfl (law10_same_ok (Section.mk v16.Low v16.Rows) (Section.mk v18.Low v18.Rows) v20 h21) (.inr ⟨(by kernel_rfl), law10_same_f v20⟩) (by kernel_rfl)) (And.intro b22 (And.intro (callS (K := (kx E 37 0)) ⟨[(27, vb true), (28, va [ci a1.Low, tl e_Span default a1.Rows])], []⟩ (opAt (rg Try.f6 14) 18) [] [] 3 o0 rfl (section_Flip_ok a1 v23 h24) (.inl rfl) (by kernel_rfl)) (And.intro (callS (K := (kx E 37 0)) ⟨[(27, vb true), (30, va [ci a1.Low, tl e_Span default a1.Rows])], []⟩ (opAt (rg Try.f6 14) 20) [] [] 4 o0 rfl (ref10_Flip_ok a1 v25 h26) (.inl rfl) (by kernel_rfl)) (And.intro (callS (K := (kx E 37 0)) (b := false) ⟨[(27, vb true), (29, va [ci v23.Low, .own 3 0 2 v23.Rows.length]), (31, va [ci v25.Low, .own 4 0 2 v25.Rows.length])], [(3, ro 0 35 2 v23.Rows.length (rf e_Span v23.Rows)), (4, ro 0 35 2 v25.Rows.length (rf e_Span v25.Rows))]⟩ (opAt (rg Try.f6 14) 21) [] [] 5 (o1 (And.intro (Nat.le_refl v23.Rows.length) (Nat.le_refl v25.Rows.length))) rfl (law10_same_ok (Section.mk v23.Low v23.Rows) (Section.mk v25.Low v25.Rows) v27 h28) (.inr ⟨(by kernel_rfl), law10_same_f v27⟩) (by kernel_rfl)) (And.intro b29 (callS (K := (kx E 37 0)) ⟨[(34, vb true)], []⟩ (opAt (rg Try.f6 14) 24) [] [] 5 o0 rfl (law10_awake_ok v30 h31) (.inl rfl) (by kernel_rfl))))))))))))))) (by kernel_rfl) (by kernel_rfl) ?_
            exact J_mk (v30) hm (by kernel_rfl) (by kernel_rfl)
          · replace hm := bif_f b29 hm
            refine R_dr Try.f6 14 3 [] [(3, dex (cen [] [] 1 0 (section_Shift_x v9) (section_Shift_o v9) [11, 12, 13] [])), (7, dex (cen [] [] 1 0 (ref10_Shift_x v11) (ref10_Shift_o v11) [15, 16, 17] [])), (8, dex (cen [] [] 1 0 (law10_same_x v13) (law10_same_o v13) [14, 18] [])), (9, dfx true), (11, dex (cen [] [] 1 0 (section_Mirror_x v16) (section_Mirror_o v16) [20, 21] [])), (13, dex (cen [] [] 2 0 (ref10_Mirror_x v18) (ref10_Mirror_o v18) [20, 23] [])), (14, dex (cen [] [] 3 0 (law10_same_x v20) (law10_same_o v20) [20, 22, 24] [1, 2])), (16, dfx true), (18, dex (cen [] [] 3 0 (section_Flip_x v23) (section_Flip_o v23) [27, 28] [])), (20, dex (cen [] [] 4 0 (ref10_Flip_x v25) (ref10_Flip_o v25) [27, 30] [])), (21, dex (cen [] [] 5 0 (law10_same_x v27) (law10_same_o v27) [27, 29, 31] [3, 4])), (23, dfx false)] [] [0, 0, 0, 7, 0, 0, 0, 127, 255, 511, 1023, 2047, 1023, 8191, 16383, 32767, 65535, 131071, 262143, 131071, 1048575, 2097151, 4194303, 8388607, 16777215, 33554431, 67108863] 1 ⟨[(6, vb false)], []⟩ (o1 (And.intro (callS (K := (kx E 37 0)) ⟨[(11, va [ci a1.Low, tl e_Span default a1.Rows]), (12, vi a2), (13, vi a3)], []⟩ (opAt (rg Try.f6 14) 3) [] [] 1 o0 rfl (section_Shift_ok a1 a2 a3 v9 h10) (.inl rfl) (by kernel_rfl)) (And.intro (callS (K := (kx E 37 0)) ⟨[(15, va [ci a1.Low, tl e_Span default a1.Rows]), (16, vi a2), (17, vi a3)], []⟩ (opAt (rg Try.f6 14) 7) [] [] 1 o0 rfl (ref10_Shift_ok a1 a2 a3 v11 h12) (.inl rfl) (by kernel_rfl)) (And.intro (callS (K := (kx E 37 0)) ⟨[(14, va [ci v9.Low, tl e_Span default v9.Rows]), (18, va [ci v11.Low, tl e_Span default v11.Rows])], []⟩ (opAt (rg Try.f6 14) 8) [] [] 1 o0 rfl (law10_same_ok v9 v11 v13 h14) (.inl rfl) (by kernel_rfl)) (And.intro b15 (And.intro (callS (K := (kx E 37 0)) ⟨[(20, vb true), (21, va [ci a1.Low, tl e_Span default a1.Rows])], []⟩ (opAt (rg Try.f6 14) 11) [] [] 1 o0 rfl (section_Mirror_ok a1 v16 h17) (.inl rfl) (by kernel_rfl)) (And.intro (callS (K := (kx E 37 0)) ⟨[(20, vb true), (23, va [ci a1.Low, tl e_Span default a1.Rows])], []⟩ (opAt (rg Try.f6 14) 13) [] [] 2 o0 rfl (ref10_Mirror_ok a1 v18 h19) (.inl rfl) (by kernel_rfl)) (And.intro (callS (K := (kx E 37 0)) (b := false) ⟨[(20, vb true), (22, va [ci v16.Low, .own 1 0 2 v16.Rows.length]), (24, va [ci v18.Low, .own 2 0 2 v18.Rows.length])], [(1, ro 0 35 2 v16.Rows.length (rf e_Span v16.Rows)), (2, ro 0 35 2 v18.Rows.length (rf e_Span v18.Rows))]⟩ (opAt (rg Try.f6 14) 14) [] [] 3 (o1 (And.intro (Nat.le_refl v16.Rows.length) (Nat.le_refl v18.Rows.length))) rfl (law10_same_ok (Section.mk v16.Low v16.Rows) (Section.mk v18.Low v18.Rows) v20 h21) (.inr ⟨(by kernel_rfl), law10_same_f v20⟩) (by kernel_rfl)) (And.intro b22 (And.intro (callS (K := (kx E 37 0)) ⟨[(27, vb true), (28, va [ci a1.Low, tl e_Span default a1.Rows])], []⟩ (opAt (rg Try.f6 14) 18) [] [] 3 o0 rfl (section_Flip_ok a1 v23 h24) (.inl rfl) (by kernel_rfl)) (And.intro (callS (K := (kx E 37 0)) ⟨[(27, vb true), (30, va [ci a1.Low, tl e_Span default a1.Rows])], []⟩ (opAt (rg Try.f6 14) 20) [] [] 4 o0 rfl (ref10_Flip_ok a1 v25 h26) (.inl rfl) (by kernel_rfl)) (And.intro (callS (K := (kx E 37 0)) (b := false) ⟨[(27, vb true), (29, va [ci v23.Low, .own 3 0 2 v23.Rows.length]), (31, va [ci v25.Low, .own 4 0 2 v25.Rows.length])], [(3, ro 0 35 2 v23.Rows.length (rf e_Span v23.Rows)), (4, ro 0 35 2 v25.Rows.length (rf e_Span v25.Rows))]⟩ (opAt (rg Try.f6 14) 21) [] [] 5 (o1 (And.intro (Nat.le_refl v23.Rows.length) (Nat.le_refl v25.Rows.length))) rfl (law10_same_ok (Section.mk v23.Low v23.Rows) (Section.mk v25.Low v25.Rows) v27 h28) (.inr ⟨(by kernel_rfl), law10_same_f v27⟩) (by kernel_rfl)) b29)))))))))))) (by kernel_rfl) (by kernel_rfl) ?_
            exact J_mk (false) hm (by kernel_rfl) (by kernel_rfl)
        · replace hm := bif_f b22 hm
          refine R_dr Try.f6 14 3 [] [(3, dex (cen [] [] 1 0 (section_Shift_x v9) (section_Shift_o v9) [11, 12, 13] [])), (7, dex (cen [] [] 1 0 (ref10_Shift_x v11) (ref10_Shift_o v11) [15, 16, 17] [])), (8, dex (cen [] [] 1 0 (law10_same_x v13) (law10_same_o v13) [14, 18] [])), (9, dfx true), (11, dex (cen [] [] 1 0 (section_Mirror_x v16) (section_Mirror_o v16) [20, 21] [])), (13, dex (cen [] [] 2 0 (ref10_Mirror_x v18) (ref10_Mirror_o v18) [20, 23] [])), (14, dex (cen [] [] 3 0 (law10_same_x v20) (law10_same_o v20) [20, 22, 24] [1, 2])), (16, dfx false)] [] [0, 0, 0, 7, 0, 0, 0, 127, 255, 511, 1023, 2047, 1023, 8191, 16383, 32767, 65535, 131071, 262143, 131071, 1048575, 2097151, 4194303, 8388607, 16777215, 33554431, 67108863] 1 ⟨[(6, vb false)], []⟩ (o1 (And.intro (callS (K := (kx E 37 0)) ⟨[(11, va [ci a1.Low, tl e_Span default a1.Rows]), (12, vi a2), (13, vi a3)], []⟩ (opAt (rg Try.f6 14) 3) [] [] 1 o0 rfl (section_Shift_ok a1 a2 a3 v9 h10) (.inl rfl) (by kernel_rfl)) (And.intro (callS (K := (kx E 37 0)) ⟨[(15, va [ci a1.Low, tl e_Span default a1.Rows]), (16, vi a2), (17, vi a3)], []⟩ (opAt (rg Try.f6 14) 7) [] [] 1 o0 rfl (ref10_Shift_ok a1 a2 a3 v11 h12) (.inl rfl) (by kernel_rfl)) (And.intro (callS (K := (kx E 37 0)) ⟨[(14, va [ci v9.Low, tl e_Span default v9.Rows]), (18, va [ci v11.Low, tl e_Span default v11.Rows])], []⟩ (opAt (rg Try.f6 14) 8) [] [] 1 o0 rfl (law10_same_ok v9 v11 v13 h14) (.inl rfl) (by kernel_rfl)) (And.intro b15 (And.intro (callS (K := (kx E 37 0)) ⟨[(20, vb true), (21, va [ci a1.Low, tl e_Span default a1.Rows])], []⟩ (opAt (rg Try.f6 14) 11) [] [] 1 o0 rfl (section_Mirror_ok a1 v16 h17) (.inl rfl) (by kernel_rfl)) (And.intro (callS (K := (kx E 37 0)) ⟨[(20, vb true), (23, va [ci a1.Low, tl e_Span default a1.Rows])], []⟩ (opAt (rg Try.f6 14) 13) [] [] 2 o0 rfl (ref10_Mirror_ok a1 v18 h19) (.inl rfl) (by kernel_rfl)) (And.intro (callS (K := (kx E 37 0)) (b := false) ⟨[(20, vb true), (22, va [ci v16.Low, .own 1 0 2 v16.Rows.length]), (24, va [ci v18.Low, .own 2 0 2 v18.Rows.length])], [(1, ro 0 35 2 v16.Rows.length (rf e_Span v16.Rows)), (2, ro 0 35 2 v18.Rows.length (rf e_Span v18.Rows))]⟩ (opAt (rg Try.f6 14) 14) [] [] 3 (o1 (And.intro (Nat.le_refl v16.Rows.length) (Nat.le_refl v18.Rows.length))) rfl (law10_same_ok (Section.mk v16.Low v16.Rows) (Section.mk v18.Low v18.Rows) v20 h21) (.inr ⟨(by kernel_rfl), law10_same_f v20⟩) (by kernel_rfl)) b22)))))))) (by kernel_rfl) (by kernel_rfl) ?_
          exact J_mk (false) hm (by kernel_rfl) (by kernel_rfl)
      · replace hm := bif_f b15 hm
        refine R_dr Try.f6 14 3 [] [(3, dex (cen [] [] 1 0 (section_Shift_x v9) (section_Shift_o v9) [11, 12, 13] [])), (7, dex (cen [] [] 1 0 (ref10_Shift_x v11) (ref10_Shift_o v11) [15, 16, 17] [])), (8, dex (cen [] [] 1 0 (law10_same_x v13) (law10_same_o v13) [14, 18] [])), (9, dfx false)] [] [0, 0, 0, 7, 0, 0, 0, 127, 255, 511, 1023, 2047, 1023, 8191, 16383, 32767, 65535, 131071, 262143, 131071, 1048575, 2097151, 4194303, 8388607, 16777215, 33554431, 67108863] 1 ⟨[(6, vb false)], []⟩ (o1 (And.intro (callS (K := (kx E 37 0)) ⟨[(11, va [ci a1.Low, tl e_Span default a1.Rows]), (12, vi a2), (13, vi a3)], []⟩ (opAt (rg Try.f6 14) 3) [] [] 1 o0 rfl (section_Shift_ok a1 a2 a3 v9 h10) (.inl rfl) (by kernel_rfl)) (And.intro (callS (K := (kx E 37 0)) ⟨[(15, va [ci a1.Low, tl e_Span default a1.Rows]), (16, vi a2), (17, vi a3)], []⟩ (opAt (rg Try.f6 14) 7) [] [] 1 o0 rfl (ref10_Shift_ok a1 a2 a3 v11 h12) (.inl rfl) (by kernel_rfl)) (And.intro (callS (K := (kx E 37 0)) ⟨[(14, va [ci v9.Low, tl e_Span default v9.Rows]), (18, va [ci v11.Low, tl e_Span default v11.Rows])], []⟩ (opAt (rg Try.f6 14) 8) [] [] 1 o0 rfl (law10_same_ok v9 v11 v13 h14) (.inl rfl) (by kernel_rfl)) b15)))) (by kernel_rfl) (by kernel_rfl) ?_
        exact J_mk (false) hm (by kernel_rfl) (by kernel_rfl)

end Saw
end Go.SL
