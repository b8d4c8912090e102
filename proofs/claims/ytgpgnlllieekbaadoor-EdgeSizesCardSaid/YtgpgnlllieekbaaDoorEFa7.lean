import Derived.Test.YtgpgnlllieekbaaDoorEBase
import Derived.Test.YtgpgnlllieekbaaDoorEFa6
import Derived.Test.YtgpgnlllieekbaaDoorEFa2
import Derived.Test.YtgpgnlllieekbaaDoorEFa5
import Derived.Test.YtgpgnlllieekbaaDoorEFa3
import Derived.Test.YtgpgnlllieekbaaDoorEFa4
set_option linter.unusedVariables false
set_option linter.unusedSimpArgs false
namespace Go.SL
namespace Saw
open Go.Proofs
set_option maxHeartbeats 4000000

def edge_gain_x (r : Int) : V := vi r

def edge_gain_o (r : Int) : List (Nat × (Nat × O)) := []

theorem edge_gain_f (r : Int) : Frozen (edge_gain_o r) := by
  intro i k o h
  unfold edge_gain_o at h
  cases h

set_option maxRecDepth 100000 in
theorem edge_gain_ok (a1 : List Slice) (a2 : List Defect) (a3 : Product) (a4 : Rect) (a5 : Saw) (a6 : Rates) (r : Int) (hm : edge_gain a1 a2 a3 a4 a5 a6 = some r) : CtX Tryd.prog globs 61 0 0 [.one (tl e_Slice default a1), .one (tl e_Defect default a2), .agg [cs a3.Name, ci a3.Thick, ci a3.Width, ci a3.Allow, ci a3.Wane, tl e_i64 default a3.Lengths, tl e_i64 default a3.Prices], .agg [ci a4.X.A, ci a4.X.B, ci a4.Y.A, ci a4.Y.B], .agg [ci a5.Kerf, ci a5.Trim, ci a5.Pitch, ci a5.Step], .agg [ci a6.Chip, ci a6.Dust, ci a6.Fine]] [] (edge_gain_x r) (edge_gain_o r) := by
  unfold edge_gain at hm
  refine CtX_of_E (fn := Tryd.f61) (c := nd Tryd.f61 1) (nt := 89) (by kernel_rfl) (by kernel_rfl) (by kernel_rfl) (by kernel_rfl) fun E => ?_
  refine R_sq Tryd.f61 2 3 (by kernel_rfl) ?_
  refine R_rn Tryd.f61 2 0 [] [] 0 ⟨[(0, vc (tl e_Slice default a1)), (1, vc (tl e_Defect default a2)), (8, vp 0 0), (9, vp 1 0), (10, vp 2 0), (11, vp 3 0)], [(0, bx 43 [cs a3.Name, ci a3.Thick, ci a3.Width, ci a3.Allow, ci a3.Wane, tl e_i64 default a3.Lengths, tl e_i64 default a3.Prices]), (1, bx 35 [ci a4.X.A, ci a4.X.B, ci a4.Y.A, ci a4.Y.B]), (2, bx 37 [ci a5.Kerf, ci a5.Trim, ci a5.Pitch, ci a5.Step]), (3, bx 39 [ci a6.Chip, ci a6.Dust, ci a6.Fine])]⟩ o0 (by kernel_rfl) (by kernel_rfl) ?_
  refine R_sq Tryd.f61 6 7 (by kernel_rfl) ?_
  obtain ⟨v7, h8, hm⟩ := bind_s hm
  refine R_rn Tryd.f61 6 1 [(8, dex (cen [] [] 4 0 (worth_Best_x v7) (worth_Best_o v7) [21, 22, 23, 24, 26, 28] []))] [] 4 ⟨[(0, vc (tl e_Slice default a1)), (9, vp 1 0), (10, vp 2 0), (11, vp 3 0), (13, vp 4 0), (14, vi v7.2.1), (15, vb v7.2.2)], [(1, bx 35 [ci a4.X.A, ci a4.X.B, ci a4.Y.A, ci a4.Y.B]), (2, bx 37 [ci a5.Kerf, ci a5.Trim, ci a5.Pitch, ci a5.Step]), (3, bx 39 [ci a6.Chip, ci a6.Dust, ci a6.Fine]), (4, bx 33 [ci v7.1.A, ci v7.1.B])]⟩ (o1 (callS (K := (kx E 89 0)) ⟨[(21, vc (tl e_Slice default a1)), (22, vc (tl e_Defect default a2)), (23, va [cs a3.Name, ci a3.Thick, ci a3.Width, ci a3.Allow, ci a3.Wane, tl e_i64 default a3.Lengths, tl e_i64 default a3.Prices]), (24, va [ci a4.X.A, ci a4.X.B, ci a4.Y.A, ci a4.Y.B]), (26, vi a5.Step), (28, vi a6.Fine)], []⟩ (opAt (rg Tryd.f61 6) 8) [] [] 4 o0 rfl (worth_Best_ok a1 a2 a3 a4 a5.Step a6.Fine v7 h8) (.inl rfl) (by kernel_rfl))) (by kernel_rfl) (by kernel_rfl) ?_
  refine R_sq Tryd.f61 14 15 (by kernel_rfl) ?_
  refine R_sq Tryd.f61 28 29 (by kernel_rfl) ?_
  refine R_rn Tryd.f61 28 2 [] [] 5 ⟨[(0, vc (tl e_Slice default a1)), (9, vp 1 0), (10, vp 2 0), (11, vp 3 0), (13, vp 4 0), (14, vi v7.2.1), (34, vb (!v7.2.2))], [(1, bx 35 [ci a4.X.A, ci a4.X.B, ci a4.Y.A, ci a4.Y.B]), (2, bx 37 [ci a5.Kerf, ci a5.Trim, ci a5.Pitch, ci a5.Step]), (3, bx 39 [ci a6.Chip, ci a6.Dust, ci a6.Fine]), (4, bx 33 [ci v7.1.A, ci v7.1.B])]⟩ o0 (by kernel_rfl) (by kernel_rfl) ?_
  refine R_cn Tryd.f61 (.tmp 34) 58 59 (by kernel_rfl) (!v7.2.2) (by kernel_rfl) (fun b9 => ?_) (fun b9 => ?_)
  · replace hm := bif_t b9 hm
    refine R_sq Tryd.f61 116 117 (by kernel_rfl) ?_
    refine R_rn Tryd.f61 116 3 [] [] 5 ⟨[(12, vi (-1))], []⟩ o0 (by kernel_rfl) (by kernel_rfl) ?_
    obtain rfl := Option.some.inj hm
    refine R_ret (by kernel_rfl) ?_
    exact ret_mk (by kernel_rfl) (by kernel_rfl)
  · replace hm := bif_f b9 hm
    refine R_skip (by kernel_rfl) ?_
    refine R_sq Tryd.f61 30 31 (by kernel_rfl) ?_
    obtain ⟨v10, h11, hm⟩ := bind_s hm
    refine R_rn Tryd.f61 30 4 [(1, dex (cen [] [] 5 0 (solid_Length_x v10) (solid_Length_o v10) [35] []))] [] 5 ⟨[(0, vc (tl e_Slice default a1)), (9, vp 1 0), (10, vp 2 0), (11, vp 3 0), (13, vp 4 0), (14, vi v7.2.1), (16, vi v10)], [(1, bx 35 [ci a4.X.A, ci a4.X.B, ci a4.Y.A, ci a4.Y.B]), (2, bx 37 [ci a5.Kerf, ci a5.Trim, ci a5.Pitch, ci a5.Step]), (3, bx 39 [ci a6.Chip, ci a6.Dust, ci a6.Fine]), (4, bx 33 [ci v7.1.A, ci v7.1.B])]⟩ (o1 (callS (K := (kx E 89 0)) ⟨[(35, vc (tl e_Slice default a1))], []⟩ (opAt (rg Tryd.f61 30) 1) [] [] 5 o0 rfl (solid_Length_ok a1 v10 h11) (.inl rfl) (by kernel_rfl))) (by kernel_rfl) (by kernel_rfl) ?_
    refine R_sq Tryd.f61 62 63 (by kernel_rfl) ?_
    obtain ⟨v12, h13, hm⟩ := bind_s hm
    refine R_rn Tryd.f61 62 5 [(4, dex (cen [] [] 5 0 (edge_volume_x v12) (edge_volume_o v12) [37, 38, 40] []))] [] 5 ⟨[(0, vc (tl e_Slice default a1)), (9, vp 1 0), (10, vp 2 0), (11, vp 3 0), (13, vp 4 0), (14, vi v7.2.1), (16, vi v10), (17, vi v12)], [(1, bx 35 [ci a4.X.A, ci a4.X.B, ci a4.Y.A, ci a4.Y.B]), (2, bx 37 [ci a5.Kerf, ci a5.Trim, ci a5.Pitch, ci a5.Step]), (3, bx 39 [ci a6.Chip, ci a6.Dust, ci a6.Fine]), (4, bx 33 [ci v7.1.A, ci v7.1.B])]⟩ (o1 (callS (K := (kx E 89 0)) ⟨[(37, vc (tl e_Slice default a1)), (38, va [ci a4.X.A, ci a4.X.B, ci a4.Y.A, ci a4.Y.B]), (40, va [ci 0, ci v10])], []⟩ (opAt (rg Tryd.f61 62) 4) [] [] 5 o0 rfl (edge_volume_ok a1 a4 (Span.mk 0 v10) v12 h13) (.inl rfl) (by kernel_rfl))) (by kernel_rfl) (by kernel_rfl) ?_
    refine R_sq Tryd.f61 126 127 (by kernel_rfl) ?_
    obtain ⟨v14, h15, hm⟩ := bind_s hm
    refine R_rn Tryd.f61 126 6 [(3, dex (cen [] [] 5 0 (edge_volume_x v14) (edge_volume_o v14) [42, 43, 44] []))] [] 5 ⟨[(0, vc (tl e_Slice default a1)), (9, vp 1 0), (10, vp 2 0), (11, vp 3 0), (13, vp 4 0), (14, vi v7.2.1), (16, vi v10), (17, vi v12), (18, vi v14)], [(1, bx 35 [ci a4.X.A, ci a4.X.B, ci a4.Y.A, ci a4.Y.B]), (2, bx 37 [ci a5.Kerf, ci a5.Trim, ci a5.Pitch, ci a5.Step]), (3, bx 39 [ci a6.Chip, ci a6.Dust, ci a6.Fine]), (4, bx 33 [ci v7.1.A, ci v7.1.B])]⟩ (o1 (callS (K := (kx E 89 0)) ⟨[(42, vc (tl e_Slice default a1)), (43, va [ci a4.X.A, ci a4.X.B, ci a4.Y.A, ci a4.Y.B]), (44, va [ci v7.1.A, ci v7.1.B])], []⟩ (opAt (rg Tryd.f61 126) 3) [] [] 5 o0 rfl (edge_volume_ok a1 a4 v7.1 v14 h15) (.inl rfl) (by kernel_rfl))) (by kernel_rfl) (by kernel_rfl) ?_
    refine R_sq Tryd.f61 254 255 (by kernel_rfl) ?_
    obtain ⟨v16, h17, hm⟩ := bind_s hm
    refine R_rn Tryd.f61 254 7 [(11, dex (cen [] [] 5 0 (edge_volume_x v16) (edge_volume_o v16) [46, 47, 56] []))] [] 5 ⟨[(0, vc (tl e_Slice default a1)), (9, vp 1 0), (10, vp 2 0), (11, vp 3 0), (13, vp 4 0), (14, vi v7.2.1), (16, vi v10), (17, vi v12), (18, vi v14), (19, vi v16)], [(1, bx 35 [ci a4.X.A, ci a4.X.B, ci a4.Y.A, ci a4.Y.B]), (2, bx 37 [ci a5.Kerf, ci a5.Trim, ci a5.Pitch, ci a5.Step]), (3, bx 39 [ci a6.Chip, ci a6.Dust, ci a6.Fine]), (4, bx 33 [ci v7.1.A, ci v7.1.B])]⟩ (o1 (callS (K := (kx E 89 0)) ⟨[(46, vc (tl e_Slice default a1)), (47, va [ci a4.X.A, ci a4.X.B, ci a4.Y.A, ci a4.Y.B]), (56, va [ci (imax 0 (w64 (v7.1.A - a5.Trim))), ci v7.1.A])], []⟩ (opAt (rg Tryd.f61 254) 11) [] [] 5 o0 rfl (edge_volume_ok a1 a4 (Span.mk (imax 0 (w64 (v7.1.A - a5.Trim))) v7.1.A) v16 h17) (.inl rfl) (by kernel_rfl))) (by kernel_rfl) (by kernel_rfl) ?_
    refine R_sq Tryd.f61 510 511 (by kernel_rfl) ?_
    obtain ⟨v18, h19, hm⟩ := bind_s hm
    refine R_rn Tryd.f61 510 8 [(13, dex (cen [] [] 5 0 (edge_volume_x v18) (edge_volume_o v18) [59, 60, 70] []))] [] 5 ⟨[(11, vp 3 0), (14, vi v7.2.1), (17, vi v12), (18, vi v14), (19, vi (w64 (v16 + v18)))], [(3, bx 39 [ci a6.Chip, ci a6.Dust, ci a6.Fine])]⟩ (o1 (callS (K := (kx E 89 0)) ⟨[(59, vc (tl e_Slice default a1)), (60, va [ci a4.X.A, ci a4.X.B, ci a4.Y.A, ci a4.Y.B]), (70, va [ci v7.1.B, ci (imin (w64 (v7.1.B + a5.Trim)) v10)])], []⟩ (opAt (rg Tryd.f61 510) 13) [] [] 5 o0 rfl (edge_volume_ok a1 a4 (Span.mk v7.1.B (imin (w64 (v7.1.B + a5.Trim)) v10)) v18 h19) (.inl rfl) (by kernel_rfl))) (by kernel_rfl) (by kernel_rfl) ?_
    refine R_sq Tryd.f61 1022 1023 (by kernel_rfl) ?_
    refine R_rn Tryd.f61 1022 9 [] [] 5 ⟨[(12, vi (w64 ((w64 ((w64 (1000000 * v7.2.1)) + (w64 (a6.Dust * (w64 (v16 + v18)))))) + (w64 (a6.Chip * (w64 ((w64 (v12 - v14)) - (w64 (v16 + v18)))))))))], []⟩ o0 (by kernel_rfl) (by kernel_rfl) ?_
    obtain rfl := Option.some.inj hm
    refine R_ret (by kernel_rfl) ?_
    exact ret_mk (by kernel_rfl) (by kernel_rfl)

end Saw
end Go.SL

namespace Go.SL
namespace Saw
open Go.Proofs
set_option maxHeartbeats 4000000

def worth_Check_x (r : Int) : V := vi r

def worth_Check_o (r : Int) : List (Nat × (Nat × O)) := []

theorem worth_Check_f (r : Int) : Frozen (worth_Check_o r) := by
  intro i k o h
  unfold worth_Check_o at h
  cases h

def worth_Check_k3_S (x20 : Bool) : St :=
  ⟨[(60, vb x20)], []⟩

def worth_Check_k2_S (a2 : Rates) (x12 : Bool) : St :=
  ⟨[(3, vp 1 0), (36, vb x12)], [(1, bx 39 [ci a2.Chip, ci a2.Dust, ci a2.Fine])]⟩

def worth_Check_k1_S (a1 : Saw) (a2 : Rates) (x6 : Bool) : St :=
  ⟨[(2, vp 0 0), (3, vp 1 0), (22, vb x6)], [(0, bx 37 [ci a1.Kerf, ci a1.Trim, ci a1.Pitch, ci a1.Step]), (1, bx 39 [ci a2.Chip, ci a2.Dust, ci a2.Fine])]⟩

set_option maxRecDepth 100000 in
theorem worth_Check_ok (a1 : Saw) (a2 : Rates) (r : Int) (hm : worth_Check a1 a2 = some r) : CtX Tryd.prog globs 72 0 0 [.agg [ci a1.Kerf, ci a1.Trim, ci a1.Pitch, ci a1.Step], .agg [ci a2.Chip, ci a2.Dust, ci a2.Fine]] [] (worth_Check_x r) (worth_Check_o r) := by
  unfold worth_Check at hm
  refine CtX_of_E (fn := Tryd.f72) (c := nd Tryd.f72 1) (nt := 61) (by kernel_rfl) (by kernel_rfl) (by kernel_rfl) (by kernel_rfl) fun E => ?_
  refine R_sq Tryd.f72 2 3 (by kernel_rfl) ?_
  refine R_rn Tryd.f72 2 0 [] [] 0 ⟨[(2, vp 0 0), (3, vp 1 0)], [(0, bx 37 [ci a1.Kerf, ci a1.Trim, ci a1.Pitch, ci a1.Step]), (1, bx 39 [ci a2.Chip, ci a2.Dust, ci a2.Fine])]⟩ o0 (by kernel_rfl) (by kernel_rfl) ?_
  refine R_sq Tryd.f72 6 7 (by kernel_rfl) ?_
  refine R_join (ι := Bool) (nd Tryd.f72 12) (nd Tryd.f72 13) (by kernel_rfl) (fun p => worth_Check_k1_S a1 a2 p) (fun p => worth_Check_k1 a1 a2 p = some r) ?_ ?_
  · rintro x6 hm
    show H _ (worth_Check_k1_S a1 a2 x6) (nd Tryd.f72 13) _
    refine R_cn Tryd.f72 (.tmp 22) 26 27 (by kernel_rfl) x6 (by kernel_rfl) (fun b7 => ?_) (fun b7 => ?_)
    · replace hm := bif_t b7 hm
      refine R_sq Tryd.f72 52 53 (by kernel_rfl) ?_
      refine R_rn Tryd.f72 52 2 [] [] 2 ⟨[(4, vi 9)], []⟩ o0 (by kernel_rfl) (by kernel_rfl) ?_
      obtain rfl := Option.some.inj hm
      refine R_ret (by kernel_rfl) ?_
      exact ret_mk (by kernel_rfl) (by kernel_rfl)
    · replace hm := bif_f b7 hm
      refine R_skip (by kernel_rfl) ?_
      refine R_sq Tryd.f72 14 15 (by kernel_rfl) ?_
      refine R_join (ι := Bool) (nd Tryd.f72 28) (nd Tryd.f72 29) (by kernel_rfl) (fun p => worth_Check_k2_S a2 p) (fun p => worth_Check_k2 a2 p = some r) ?_ ?_
      · rintro x12 hm
        show H _ (worth_Check_k2_S a2 x12) (nd Tryd.f72 29) _
        refine R_cn Tryd.f72 (.tmp 36) 58 59 (by kernel_rfl) x12 (by kernel_rfl) (fun b13 => ?_) (fun b13 => ?_)
        · replace hm := bif_t b13 hm
          refine R_sq Tryd.f72 116 117 (by kernel_rfl) ?_
          refine R_rn Tryd.f72 116 4 [] [] 2 ⟨[(4, vi 9)], []⟩ o0 (by kernel_rfl) (by kernel_rfl) ?_
          obtain rfl := Option.some.inj hm
          refine R_ret (by kernel_rfl) ?_
          exact ret_mk (by kernel_rfl) (by kernel_rfl)
        · replace hm := bif_f b13 hm
          refine R_skip (by kernel_rfl) ?_
          refine R_sq Tryd.f72 30 31 (by kernel_rfl) ?_
          refine R_join (ι := Bool) (nd Tryd.f72 60) (nd Tryd.f72 61) (by kernel_rfl) (fun p => worth_Check_k3_S p) (fun p => worth_Check_k3 p = some r) ?_ ?_
          · rintro x20 hm
            show H _ (worth_Check_k3_S x20) (nd Tryd.f72 61) _
            refine R_cn Tryd.f72 (.tmp 60) 122 123 (by kernel_rfl) x20 (by kernel_rfl) (fun b21 => ?_) (fun b21 => ?_)
            · replace hm := bif_t b21 hm
              refine R_sq Tryd.f72 244 245 (by kernel_rfl) ?_
              refine R_rn Tryd.f72 244 6 [] [] 2 ⟨[(4, vi 9)], []⟩ o0 (by kernel_rfl) (by kernel_rfl) ?_
              obtain rfl := Option.some.inj hm
              refine R_ret (by kernel_rfl) ?_
              exact ret_mk (by kernel_rfl) (by kernel_rfl)
            · replace hm := bif_f b21 hm
              refine R_skip (by kernel_rfl) ?_
              refine R_sq Tryd.f72 62 63 (by kernel_rfl) ?_
              refine R_rn Tryd.f72 62 7 [] [] 2 ⟨[(4, vi 0)], []⟩ o0 (by kernel_rfl) (by kernel_rfl) ?_
              obtain rfl := Option.some.inj hm
              refine R_ret (by kernel_rfl) ?_
              exact ret_mk (by kernel_rfl) (by kernel_rfl)
          · rcases Bool.eq_false_or_eq_true (decide (a2.Chip < 0)) with b14 | b14
            · replace hm := bif_t b14 hm
              refine R_rn Tryd.f72 60 5 [(3, dfx true)] [] 2 ⟨[(60, vb true)], []⟩ (o1 b14) (by kernel_rfl) (by kernel_rfl) ?_
              exact J_mk (true) hm (by kernel_rfl) (by kernel_rfl)
            · replace hm := bif_f b14 hm
              rcases Bool.eq_false_or_eq_true (decide (a2.Chip > 1000)) with b15 | b15
              · replace hm := bif_t b15 hm
                refine R_rn Tryd.f72 60 5 [(3, dfx false), (8, dfx true)] [] 2 ⟨[(60, vb true)], []⟩ (o1 (And.intro b14 b15)) (by kernel_rfl) (by kernel_rfl) ?_
                exact J_mk (true) hm (by kernel_rfl) (by kernel_rfl)
              · replace hm := bif_f b15 hm
                rcases Bool.eq_false_or_eq_true (decide (a2.Dust < 0)) with b16 | b16
                · replace hm := bif_t b16 hm
                  refine R_rn Tryd.f72 60 5 [(3, dfx false), (8, dfx false), (13, dfx true)] [] 2 ⟨[(60, vb true)], []⟩ (o1 (And.intro b14 (And.intro b15 b16))) (by kernel_rfl) (by kernel_rfl) ?_
                  exact J_mk (true) hm (by kernel_rfl) (by kernel_rfl)
                · replace hm := bif_f b16 hm
                  rcases Bool.eq_false_or_eq_true (decide (a2.Dust > 1000)) with b17 | b17
                  · replace hm := bif_t b17 hm
                    refine R_rn Tryd.f72 60 5 [(3, dfx false), (8, dfx false), (13, dfx false), (18, dfx true)] [] 2 ⟨[(60, vb true)], []⟩ (o1 (And.intro b14 (And.intro b15 (And.intro b16 b17)))) (by kernel_rfl) (by kernel_rfl) ?_
                    exact J_mk (true) hm (by kernel_rfl) (by kernel_rfl)
                  · replace hm := bif_f b17 hm
                    obtain ⟨v18, h19, hm⟩ := bind_s hm
                    refine R_rn Tryd.f72 60 5 [(3, dfx false), (8, dfx false), (13, dfx false), (18, dfx false), (21, dex (cen [] [] 2 0 (worth_isFine_x v18) (worth_isFine_o v18) [55, 57] []))] [] 2 ⟨[(60, vb (!v18))], []⟩ (o1 (And.intro b14 (And.intro b15 (And.intro b16 (And.intro b17 (callS (K := (kx E 61 0)) ⟨[(55, vb false), (57, vi a2.Fine)], []⟩ (opAt (rg Tryd.f72 60) 21) [] [] 2 o0 rfl (worth_isFine_ok a2.Fine v18 h19) (.inl rfl) (by kernel_rfl))))))) (by kernel_rfl) (by kernel_rfl) ?_
                    exact J_mk (!v18) hm (by kernel_rfl) (by kernel_rfl)
      · rcases Bool.eq_false_or_eq_true (decide (a1.Pitch < 1)) with b8 | b8
        · replace hm := bif_t b8 hm
          refine R_rn Tryd.f72 28 3 [(3, dfx true)] [] 2 ⟨[(3, vp 1 0), (36, vb true)], [(1, bx 39 [ci a2.Chip, ci a2.Dust, ci a2.Fine])]⟩ (o1 b8) (by kernel_rfl) (by kernel_rfl) ?_
          exact J_mk (true) hm (by kernel_rfl) (by kernel_rfl)
        · replace hm := bif_f b8 hm
          rcases Bool.eq_false_or_eq_true (decide (a1.Pitch > 2000)) with b9 | b9
          · replace hm := bif_t b9 hm
            refine R_rn Tryd.f72 28 3 [(3, dfx false), (8, dfx true)] [] 2 ⟨[(3, vp 1 0), (36, vb true)], [(1, bx 39 [ci a2.Chip, ci a2.Dust, ci a2.Fine])]⟩ (o1 (And.intro b8 b9)) (by kernel_rfl) (by kernel_rfl) ?_
            exact J_mk (true) hm (by kernel_rfl) (by kernel_rfl)
          · replace hm := bif_f b9 hm
            obtain ⟨v10, h11, hm⟩ := bind_s hm
            refine R_rn Tryd.f72 28 3 [(3, dfx false), (8, dfx false), (11, dex (cen [] [] 2 0 (worth_isStep_x v10) (worth_isStep_o v10) [31, 33] []))] [] 2 ⟨[(3, vp 1 0), (36, vb (!v10))], [(1, bx 39 [ci a2.Chip, ci a2.Dust, ci a2.Fine])]⟩ (o1 (And.intro b8 (And.intro b9 (callS (K := (kx E 61 0)) ⟨[(31, vb false), (33, vi a1.Step)], []⟩ (opAt (rg Tryd.f72 28) 11) [] [] 2 o0 rfl (worth_isStep_ok a1.Step v10 h11) (.inl rfl) (by kernel_rfl))))) (by kernel_rfl) (by kernel_rfl) ?_
            exact J_mk (!v10) hm (by kernel_rfl) (by kernel_rfl)
  · rcases Bool.eq_false_or_eq_true (decide (a1.Kerf < 0)) with b3 | b3
    · replace hm := bif_t b3 hm
      refine R_rn Tryd.f72 12 1 [(3, dfx true)] [] 2 ⟨[(2, vp 0 0), (3, vp 1 0), (22, vb true)], [(0, bx 37 [ci a1.Kerf, ci a1.Trim, ci a1.Pitch, ci a1.Step]), (1, bx 39 [ci a2.Chip, ci a2.Dust, ci a2.Fine])]⟩ (o1 b3) (by kernel_rfl) (by kernel_rfl) ?_
      exact J_mk (true) hm (by kernel_rfl) (by kernel_rfl)
    · replace hm := bif_f b3 hm
      rcases Bool.eq_false_or_eq_true (decide (a1.Kerf > 20)) with b4 | b4
      · replace hm := bif_t b4 hm
        refine R_rn Tryd.f72 12 1 [(3, dfx false), (8, dfx true)] [] 2 ⟨[(2, vp 0 0), (3, vp 1 0), (22, vb true)], [(0, bx 37 [ci a1.Kerf, ci a1.Trim, ci a1.Pitch, ci a1.Step]), (1, bx 39 [ci a2.Chip, ci a2.Dust, ci a2.Fine])]⟩ (o1 (And.intro b3 b4)) (by kernel_rfl) (by kernel_rfl) ?_
        exact J_mk (true) hm (by kernel_rfl) (by kernel_rfl)
      · replace hm := bif_f b4 hm
        rcases Bool.eq_false_or_eq_true (decide (a1.Trim < 0)) with b5 | b5
        · replace hm := bif_t b5 hm
          refine R_rn Tryd.f72 12 1 [(3, dfx false), (8, dfx false), (13, dfx true)] [] 2 ⟨[(2, vp 0 0), (3, vp 1 0), (22, vb true)], [(0, bx 37 [ci a1.Kerf, ci a1.Trim, ci a1.Pitch, ci a1.Step]), (1, bx 39 [ci a2.Chip, ci a2.Dust, ci a2.Fine])]⟩ (o1 (And.intro b3 (And.intro b4 b5))) (by kernel_rfl) (by kernel_rfl) ?_
          exact J_mk (true) hm (by kernel_rfl) (by kernel_rfl)
        · replace hm := bif_f b5 hm
          refine R_rn Tryd.f72 12 1 [(3, dfx false), (8, dfx false), (13, dfx false)] [] 2 ⟨[(2, vp 0 0), (3, vp 1 0), (22, vb (decide (a1.Trim > 20)))], [(0, bx 37 [ci a1.Kerf, ci a1.Trim, ci a1.Pitch, ci a1.Step]), (1, bx 39 [ci a2.Chip, ci a2.Dust, ci a2.Fine])]⟩ (o1 (And.intro b3 (And.intro b4 b5))) (by kernel_rfl) (by kernel_rfl) ?_
          exact J_mk (decide (a1.Trim > 20)) hm (by kernel_rfl) (by kernel_rfl)

end Saw
end Go.SL

namespace Go.SL
namespace Saw
open Go.Proofs
set_option maxHeartbeats 4000000

def edge_check_x (r : Int) : V := vi r

def edge_check_o (r : Int) : List (Nat × (Nat × O)) := []

theorem edge_check_f (r : Int) : Frozen (edge_check_o r) := by
  intro i k o h
  unfold edge_check_o at h
  cases h

def edge_check_k3_S (a4 : Rect) (x22 : Int) (x26 : Bool) : St :=
  ⟨[(68, va [ci a4.X.A, ci a4.X.B, ci a4.Y.A, ci a4.Y.B]), (69, vi x22), (77, vb x26)], []⟩

def edge_check_L2_S (a4 : Rect) (x22 : Int) : St :=
  ⟨[(68, va [ci a4.X.A, ci a4.X.B, ci a4.Y.A, ci a4.Y.B]), (69, vi x22)], []⟩

def edge_check_L2_T : St :=
  ⟨[], []⟩

def edge_check_k1_S (a4 : Rect) (x20 : Bool) : St :=
  ⟨[(9, vp 0 0), (55, vb x20)], [(0, bx 35 [ci a4.X.A, ci a4.X.B, ci a4.Y.A, ci a4.Y.B])]⟩

set_option maxRecDepth 100000 in
theorem edge_check_L2_ok (E : Env 0) (a4 : Rect) : ∀ (n : Nat) (x22 : Int) (res : Int ⊕ Unit), edge_check_L2 a4 n x22 = some res → HL (kx E 79 0) (nd Tryd.f60 2036) (loopQ 0 (fun o => edge_check_L2_T) (fun v st => RetQ Tryd.prog Tryd.f60 (edge_check_x v) (edge_check_o v) .ret st) res) n (edge_check_L2_S a4 x22) := by
  intro n
  induction n with
  | zero =>
    intro x22 res hm
    cases hm
  | succ n ih =>
    intro x22 res hm
    refine HL_succ ?_
    refine R_sq Tryd.f60 4072 4073 (by kernel_rfl) ?_
    refine R_rn Tryd.f60 4072 16 [] [] 3 ⟨[(68, va [ci a4.X.A, ci a4.X.B, ci a4.Y.A, ci a4.Y.B]), (69, vi x22), (70, vb (decide (x22 < 4)))], []⟩ o0 (by kernel_rfl) (by kernel_rfl) ?_
    refine R_sq Tryd.f60 8146 8147 (by kernel_rfl) ?_
    refine R_cn Tryd.f60 (.tmp 70) 16292 16293 (by kernel_rfl) (decide (x22 < 4)) (by kernel_rfl) (fun b23 => ?_) (fun b23 => ?_)
    · replace hm := bif_t b23 hm
      refine R_skip (by kernel_rfl) ?_
      refine R_sq Tryd.f60 16294 16295 (by kernel_rfl) ?_
      refine R_bk Tryd.f60 1 32588 (by kernel_rfl) ?_
      refine R_sq Tryd.f60 65176 65177 (by kernel_rfl) ?_
      obtain ⟨g24, hm⟩ := bif_n hm
      refine R_rn Tryd.f60 65176 17 [] [] 3 ⟨[(18, vi (([a4.X.A, a4.X.B, a4.Y.A, a4.Y.B] : List Int).getD x22.toNat 0)), (68, va [ci a4.X.A, ci a4.X.B, ci a4.Y.A, ci a4.Y.B]), (69, vi x22)], []⟩ (o1 (inb_of g24)) (by kernel_rfl) (by kernel_rfl) ?_
      refine R_join (ι := Bool) (nd Tryd.f60 130354) (nd Tryd.f60 130355) (by kernel_rfl) (fun p => edge_check_k3_S a4 x22 p) (fun p => edge_check_k3 x22 (edge_check_L2 a4 n) p = some res) ?_ ?_
      · rintro x26 hm
        show H _ (edge_check_k3_S a4 x22 x26) (nd Tryd.f60 130355) _
        refine R_cn Tryd.f60 (.tmp 77) 260710 260711 (by kernel_rfl) x26 (by kernel_rfl) (fun b27 => ?_) (fun b27 => ?_)
        · replace hm := bif_t b27 hm
          refine R_sq Tryd.f60 521420 521421 (by kernel_rfl) ?_
          refine R_rn Tryd.f60 521420 19 [] [] 3 ⟨[(12, vi 9)], []⟩ o0 (by kernel_rfl) (by kernel_rfl) ?_
          obtain rfl := Option.some.inj hm
          refine R_ret (by kernel_rfl) ?_
          refine L1_ret 9 ?_
          exact ret_mk (by kernel_rfl) (by kernel_rfl)
        · replace hm := bif_f b27 hm
          refine R_skip (by kernel_rfl) ?_
          refine R_rn Tryd.f60 16295 20 [] [] 3 ⟨[(68, va [ci a4.X.A, ci a4.X.B, ci a4.Y.A, ci a4.Y.B]), (69, vi (w64 (x22 + 1)))], []⟩ o0 (by kernel_rfl) (by kernel_rfl) ?_
          exact HL_enter (edge_check_L2_S a4 (w64 (x22 + 1))) (by kernel_rfl) (by kernel_rfl) (ih (w64 (x22 + 1)) _ hm)
      · rcases Bool.eq_false_or_eq_true (decide ((([a4.X.A, a4.X.B, a4.Y.A, a4.Y.B] : List Int).getD x22.toNat 0) < (-600))) with b25 | b25
        · replace hm := bif_t b25 hm
          refine R_rn Tryd.f60 130354 18 [(2, dfx true)] [] 3 ⟨[(68, va [ci a4.X.A, ci a4.X.B, ci a4.Y.A, ci a4.Y.B]), (69, vi x22), (77, vb true)], []⟩ (o1 b25) (by kernel_rfl) (by kernel_rfl) ?_
          exact J_mk (true) hm (by kernel_rfl) (by kernel_rfl)
        · replace hm := bif_f b25 hm
          refine R_rn Tryd.f60 130354 18 [(2, dfx false)] [] 3 ⟨[(68, va [ci a4.X.A, ci a4.X.B, ci a4.Y.A, ci a4.Y.B]), (69, vi x22), (75, vi (([a4.X.A, a4.X.B, a4.Y.A, a4.Y.B] : List Int).getD x22.toNat 0)), (76, vb (decide ((([a4.X.A, a4.X.B, a4.Y.A, a4.Y.B] : List Int).getD x22.toNat 0) > 600))), (77, vb (decide ((([a4.X.A, a4.X.B, a4.Y.A, a4.Y.B] : List Int).getD x22.toNat 0) > 600)))], []⟩ (o1 b25) (by kernel_rfl) (by kernel_rfl) ?_
          exact J_mk (decide ((([a4.X.A, a4.X.B, a4.Y.A, a4.Y.B] : List Int).getD x22.toNat 0) > 600)) hm (by kernel_rfl) (by kernel_rfl)
    · replace hm := bif_f b23 hm
      refine R_exit 0 (by kernel_rfl) ?_
      obtain rfl := Option.some.inj hm
      exact L1_mk () (by kernel_rfl) (by kernel_rfl)

set_option maxRecDepth 100000 in
theorem edge_check_ok (a1 : List Slice) (a2 : List Defect) (a3 : List Product) (a4 : Rect) (a5 : Saw) (a6 : Rates) (r : Int) (hm : edge_check a1 a2 a3 a4 a5 a6 = some r) : CtX Tryd.prog globs 60 0 0 [.one (tl e_Slice default a1), .one (tl e_Defect default a2), .one (tl e_Product default a3), .agg [ci a4.X.A, ci a4.X.B, ci a4.Y.A, ci a4.Y.B], .agg [ci a5.Kerf, ci a5.Trim, ci a5.Pitch, ci a5.Step], .agg [ci a6.Chip, ci a6.Dust, ci a6.Fine]] [] (edge_check_x r) (edge_check_o r) := by
  unfold edge_check at hm
  refine CtX_of_E (fn := Tryd.f60) (c := nd Tryd.f60 1) (nt := 79) (by kernel_rfl) (by kernel_rfl) (by kernel_rfl) (by kernel_rfl) fun E => ?_
  refine R_sq Tryd.f60 2 3 (by kernel_rfl) ?_
  refine R_rn Tryd.f60 2 0 [] [] 0 ⟨[(0, vc (tl e_Slice default a1)), (1, vc (tl e_Defect default a2)), (2, vc (tl e_Product default a3)), (9, vp 0 0), (10, vp 1 0), (11, vp 2 0)], [(0, bx 35 [ci a4.X.A, ci a4.X.B, ci a4.Y.A, ci a4.Y.B]), (1, bx 37 [ci a5.Kerf, ci a5.Trim, ci a5.Pitch, ci a5.Step]), (2, bx 39 [ci a6.Chip, ci a6.Dust, ci a6.Fine])]⟩ o0 (by kernel_rfl) (by kernel_rfl) ?_
  refine R_sq Tryd.f60 6 7 (by kernel_rfl) ?_
  refine R_sq Tryd.f60 12 13 (by kernel_rfl) ?_
  obtain ⟨v7, h8, hm⟩ := bind_s hm
  refine R_rn Tryd.f60 12 1 [(1, dex (cen [] [] 3 0 (solid_Check_x v7) (solid_Check_o v7) [19] []))] [] 3 ⟨[(1, vc (tl e_Defect default a2)), (2, vc (tl e_Product default a3)), (9, vp 0 0), (10, vp 1 0), (11, vp 2 0), (13, vi v7)], [(0, bx 35 [ci a4.X.A, ci a4.X.B, ci a4.Y.A, ci a4.Y.B]), (1, bx 37 [ci a5.Kerf, ci a5.Trim, ci a5.Pitch, ci a5.Step]), (2, bx 39 [ci a6.Chip, ci a6.Dust, ci a6.Fine])]⟩ (o1 (callS (K := (kx E 79 0)) ⟨[(19, vc (tl e_Slice default a1))], []⟩ (opAt (rg Tryd.f60 12) 1) [] [] 3 o0 rfl (solid_Check_ok a1 v7 h8) (.inl rfl) (by kernel_rfl))) (by kernel_rfl) (by kernel_rfl) ?_
  refine R_sq Tryd.f60 26 27 (by kernel_rfl) ?_
  refine R_rn Tryd.f60 26 2 [] [] 3 ⟨[(1, vc (tl e_Defect default a2)), (2, vc (tl e_Product default a3)), (9, vp 0 0), (10, vp 1 0), (11, vp 2 0), (13, vi v7), (22, vb (v7 != 0))], [(0, bx 35 [ci a4.X.A, ci a4.X.B, ci a4.Y.A, ci a4.Y.B]), (1, bx 37 [ci a5.Kerf, ci a5.Trim, ci a5.Pitch, ci a5.Step]), (2, bx 39 [ci a6.Chip, ci a6.Dust, ci a6.Fine])]⟩ o0 (by kernel_rfl) (by kernel_rfl) ?_
  refine R_cn Tryd.f60 (.tmp 22) 54 55 (by kernel_rfl) (v7 != 0) (by kernel_rfl) (fun b9 => ?_) (fun b9 => ?_)
  · replace hm := bif_t b9 hm
    refine R_sq Tryd.f60 108 109 (by kernel_rfl) ?_
    refine R_rn Tryd.f60 108 3 [] [] 3 ⟨[(12, vi v7)], []⟩ o0 (by kernel_rfl) (by kernel_rfl) ?_
    obtain rfl := Option.some.inj hm
    refine R_ret (by kernel_rfl) ?_
    exact ret_mk (by kernel_rfl) (by kernel_rfl)
  · replace hm := bif_f b9 hm
    refine R_skip (by kernel_rfl) ?_
    refine R_sq Tryd.f60 14 15 (by kernel_rfl) ?_
    refine R_sq Tryd.f60 28 29 (by kernel_rfl) ?_
    obtain ⟨v10, h11, hm⟩ := bind_s hm
    refine R_rn Tryd.f60 28 4 [(1, dex (cen [] [] 3 0 (defect_Check_x v10) (defect_Check_o v10) [24] []))] [] 3 ⟨[(2, vc (tl e_Product default a3)), (9, vp 0 0), (10, vp 1 0), (11, vp 2 0), (14, vi v10)], [(0, bx 35 [ci a4.X.A, ci a4.X.B, ci a4.Y.A, ci a4.Y.B]), (1, bx 37 [ci a5.Kerf, ci a5.Trim, ci a5.Pitch, ci a5.Step]), (2, bx 39 [ci a6.Chip, ci a6.Dust, ci a6.Fine])]⟩ (o1 (callS (K := (kx E 79 0)) ⟨[(24, vc (tl e_Defect default a2))], []⟩ (opAt (rg Tryd.f60 28) 1) [] [] 3 o0 rfl (defect_Check_ok a2 v10 h11) (.inl rfl) (by kernel_rfl))) (by kernel_rfl) (by kernel_rfl) ?_
    refine R_sq Tryd.f60 58 59 (by kernel_rfl) ?_
    refine R_rn Tryd.f60 58 5 [] [] 3 ⟨[(2, vc (tl e_Product default a3)), (9, vp 0 0), (10, vp 1 0), (11, vp 2 0), (14, vi v10), (27, vb (v10 != 0))], [(0, bx 35 [ci a4.X.A, ci a4.X.B, ci a4.Y.A, ci a4.Y.B]), (1, bx 37 [ci a5.Kerf, ci a5.Trim, ci a5.Pitch, ci a5.Step]), (2, bx 39 [ci a6.Chip, ci a6.Dust, ci a6.Fine])]⟩ o0 (by kernel_rfl) (by kernel_rfl) ?_
    refine R_cn Tryd.f60 (.tmp 27) 118 119 (by kernel_rfl) (v10 != 0) (by kernel_rfl) (fun b12 => ?_) (fun b12 => ?_)
    · replace hm := bif_t b12 hm
      refine R_sq Tryd.f60 236 237 (by kernel_rfl) ?_
      refine R_rn Tryd.f60 236 6 [] [] 3 ⟨[(12, vi v10)], []⟩ o0 (by kernel_rfl) (by kernel_rfl) ?_
      obtain rfl := Option.some.inj hm
      refine R_ret (by kernel_rfl) ?_
      exact ret_mk (by kernel_rfl) (by kernel_rfl)
    · replace hm := bif_f b12 hm
      refine R_skip (by kernel_rfl) ?_
      refine R_sq Tryd.f60 30 31 (by kernel_rfl) ?_
      refine R_sq Tryd.f60 60 61 (by kernel_rfl) ?_
      obtain ⟨v13, h14, hm⟩ := bind_s hm
      refine R_rn Tryd.f60 60 7 [(1, dex (cen [] [] 3 0 (product_Check_x v13) (product_Check_o v13) [29] []))] [] 3 ⟨[(9, vp 0 0), (10, vp 1 0), (11, vp 2 0), (15, vi v13)], [(0, bx 35 [ci a4.X.A, ci a4.X.B, ci a4.Y.A, ci a4.Y.B]), (1, bx 37 [ci a5.Kerf, ci a5.Trim, ci a5.Pitch, ci a5.Step]), (2, bx 39 [ci a6.Chip, ci a6.Dust, ci a6.Fine])]⟩ (o1 (callS (K := (kx E 79 0)) ⟨[(29, vc (tl e_Product default a3))], []⟩ (opAt (rg Tryd.f60 60) 1) [] [] 3 o0 rfl (product_Check_ok a3 v13 h14) (.inl rfl) (by kernel_rfl))) (by kernel_rfl) (by kernel_rfl) ?_
      refine R_sq Tryd.f60 122 123 (by kernel_rfl) ?_
      refine R_rn Tryd.f60 122 8 [] [] 3 ⟨[(9, vp 0 0), (10, vp 1 0), (11, vp 2 0), (15, vi v13), (32, vb (v13 != 0))], [(0, bx 35 [ci a4.X.A, ci a4.X.B, ci a4.Y.A, ci a4.Y.B]), (1, bx 37 [ci a5.Kerf, ci a5.Trim, ci a5.Pitch, ci a5.Step]), (2, bx 39 [ci a6.Chip, ci a6.Dust, ci a6.Fine])]⟩ o0 (by kernel_rfl) (by kernel_rfl) ?_
      refine R_cn Tryd.f60 (.tmp 32) 246 247 (by kernel_rfl) (v13 != 0) (by kernel_rfl) (fun b15 => ?_) (fun b15 => ?_)
      · replace hm := bif_t b15 hm
        refine R_sq Tryd.f60 492 493 (by kernel_rfl) ?_
        refine R_rn Tryd.f60 492 9 [] [] 3 ⟨[(12, vi v13)], []⟩ o0 (by kernel_rfl) (by kernel_rfl) ?_
        obtain rfl := Option.some.inj hm
        refine R_ret (by kernel_rfl) ?_
        exact ret_mk (by kernel_rfl) (by kernel_rfl)
      · replace hm := bif_f b15 hm
        refine R_skip (by kernel_rfl) ?_
        refine R_sq Tryd.f60 62 63 (by kernel_rfl) ?_
        refine R_sq Tryd.f60 124 125 (by kernel_rfl) ?_
        obtain ⟨v16, h17, hm⟩ := bind_s hm
        refine R_rn Tryd.f60 124 10 [(2, dex (cen [] [] 3 0 (worth_Check_x v16) (worth_Check_o v16) [34, 35] []))] [] 3 ⟨[(9, vp 0 0), (16, vi v16)], [(0, bx 35 [ci a4.X.A, ci a4.X.B, ci a4.Y.A, ci a4.Y.B])]⟩ (o1 (callS (K := (kx E 79 0)) ⟨[(34, va [ci a5.Kerf, ci a5.Trim, ci a5.Pitch, ci a5.Step]), (35, va [ci a6.Chip, ci a6.Dust, ci a6.Fine])], []⟩ (opAt (rg Tryd.f60 124) 2) [] [] 3 o0 rfl (worth_Check_ok a5 a6 v16 h17) (.inl rfl) (by kernel_rfl))) (by kernel_rfl) (by kernel_rfl) ?_
        refine R_sq Tryd.f60 250 251 (by kernel_rfl) ?_
        refine R_rn Tryd.f60 250 11 [] [] 3 ⟨[(9, vp 0 0), (16, vi v16), (38, vb (v16 != 0))], [(0, bx 35 [ci a4.X.A, ci a4.X.B, ci a4.Y.A, ci a4.Y.B])]⟩ o0 (by kernel_rfl) (by kernel_rfl) ?_
        refine R_cn Tryd.f60 (.tmp 38) 502 503 (by kernel_rfl) (v16 != 0) (by kernel_rfl) (fun b18 => ?_) (fun b18 => ?_)
        · replace hm := bif_t b18 hm
          refine R_sq Tryd.f60 1004 1005 (by kernel_rfl) ?_
          refine R_rn Tryd.f60 1004 12 [] [] 3 ⟨[(12, vi v16)], []⟩ o0 (by kernel_rfl) (by kernel_rfl) ?_
          obtain rfl := Option.some.inj hm
          refine R_ret (by kernel_rfl) ?_
          exact ret_mk (by kernel_rfl) (by kernel_rfl)
        · replace hm := bif_f b18 hm
          refine R_skip (by kernel_rfl) ?_
          refine R_sq Tryd.f60 126 127 (by kernel_rfl) ?_
          refine R_join (ι := Bool) (nd Tryd.f60 252) (nd Tryd.f60 253) (by kernel_rfl) (fun p => edge_check_k1_S a4 p) (fun p => edge_check_k1 a4 p = some r) ?_ ?_
          · rintro x20 hm
            show H _ (edge_check_k1_S a4 x20) (nd Tryd.f60 253) _
            refine R_cn Tryd.f60 (.tmp 55) 506 507 (by kernel_rfl) x20 (by kernel_rfl) (fun b21 => ?_) (fun b21 => ?_)
            · replace hm := bif_t b21 hm
              refine R_sq Tryd.f60 1012 1013 (by kernel_rfl) ?_
              refine R_rn Tryd.f60 1012 14 [] [] 3 ⟨[(12, vi 19)], []⟩ o0 (by kernel_rfl) (by kernel_rfl) ?_
              obtain rfl := Option.some.inj hm
              refine R_ret (by kernel_rfl) ?_
              exact ret_mk (by kernel_rfl) (by kernel_rfl)
            · replace hm := bif_f b21 hm
              refine R_skip (by kernel_rfl) ?_
              refine R_sq Tryd.f60 254 255 (by kernel_rfl) ?_
              refine R_sq Tryd.f60 508 509 (by kernel_rfl) ?_
              refine R_rn Tryd.f60 508 15 [] [] 3 ⟨[(68, va [ci a4.X.A, ci a4.X.B, ci a4.Y.A, ci a4.Y.B]), (69, vi 0)], []⟩ o0 (by kernel_rfl) (by kernel_rfl) ?_
              obtain ⟨u30, h29, hm⟩ := bind_s hm
              refine R_loop1 (nd Tryd.f60 2036) 0 (by kernel_rfl) FUEL (fun o => edge_check_L2_T) (fun v st => RetQ Tryd.prog Tryd.f60 (edge_check_x v) (edge_check_o v) .ret st) u30 (HL_enter (edge_check_L2_S a4 0) (by kernel_rfl) (by kernel_rfl) (edge_check_L2_ok E a4 FUEL 0 u30 h29)) ?_ ?_
              · rintro v31 rfl st hr
                obtain rfl := Option.some.inj hm
                exact hr
              · rintro o28 rfl
                replace hm : _ = some r := hm
                refine R_sq Tryd.f60 510 511 (by kernel_rfl) ?_
                refine R_rn Tryd.f60 510 21 [] [] 3 ⟨[(12, vi 0)], []⟩ o0 (by kernel_rfl) (by kernel_rfl) ?_
                obtain rfl := Option.some.inj hm
                refine R_ret (by kernel_rfl) ?_
                exact ret_mk (by kernel_rfl) (by kernel_rfl)
          · rcases Bool.eq_false_or_eq_true (decide (a4.X.A ≥ a4.X.B)) with b19 | b19
            · replace hm := bif_t b19 hm
              refine R_rn Tryd.f60 252 13 [(7, dfx true)] [] 3 ⟨[(9, vp 0 0), (55, vb true)], [(0, bx 35 [ci a4.X.A, ci a4.X.B, ci a4.Y.A, ci a4.Y.B])]⟩ (o1 b19) (by kernel_rfl) (by kernel_rfl) ?_
              exact J_mk (true) hm (by kernel_rfl) (by kernel_rfl)
            · replace hm := bif_f b19 hm
              refine R_rn Tryd.f60 252 13 [(7, dfx false)] [] 3 ⟨[(9, vp 0 0), (55, vb (decide (a4.Y.A ≥ a4.Y.B)))], [(0, bx 35 [ci a4.X.A, ci a4.X.B, ci a4.Y.A, ci a4.Y.B])]⟩ (o1 b19) (by kernel_rfl) (by kernel_rfl) ?_
              exact J_mk (decide (a4.Y.A ≥ a4.Y.B)) hm (by kernel_rfl) (by kernel_rfl)

end Saw
end Go.SL

namespace Go.SL
namespace Saw
open Go.Proofs
set_option maxHeartbeats 4000000

def edge_Sizes_x (r : (List Int) × (List Int)) : V := .tup [.one (.own 0 0 1 r.1.length), .one (.own 1 0 1 r.2.length)]

def edge_Sizes_o (r : (List Int) × (List Int)) : List (Nat × (Nat × O)) := [(0, ro 0 3 1 r.1.length (rf e_i64 r.1)), (1, ro 0 3 1 r.2.length (rf e_i64 r.2))]

theorem edge_Sizes_f (r : (List Int) × (List Int)) : Frozen (edge_Sizes_o r) := by
  intro i k o h
  unfold edge_Sizes_o at h
  rw [look_cons] at h
  split at h
  · cases h; exact fun _ _ => rfl
  · rw [look_cons] at h
    split at h
    · cases h; exact fun _ _ => rfl
    · cases h

def edge_Sizes_k3_S (a1 : List Product) (a2 : Int) (x8 : Int) (l19 : List Int) (l19n : Nat) (l20 : List Int) (l20n : Nat) : St :=
  ⟨[(1, vi a2), (6, vo 0 0 1 l19n), (7, vo 1 0 1 l20n), (15, vc (tl e_Product default a1)), (16, vi ((a1.length : Nat) : Int)), (17, vi x8)], [(0, ro 0 3 1 l19n (rf e_i64 l19)), (1, ro 0 3 1 l20n (rf e_i64 l20))]⟩

def edge_Sizes_k2_S (a1 : List Product) (a2 : Int) (l7 : List Int) (x8 : Int) (l17 : List Int) (l17n : Nat) : St :=
  ⟨[(1, vi a2), (6, vo 0 0 1 l17n), (7, vo 1 0 1 l7.length), (8, vi x8), (15, vc (tl e_Product default a1)), (16, vi ((a1.length : Nat) : Int)), (17, vi x8)], [(0, ro 0 3 1 l17n (rf e_i64 l17)), (1, ro 0 3 1 l7.length (rf e_i64 l7))]⟩

def edge_Sizes_L1_S (a1 : List Product) (a2 : Int) (l6 : List Int) (l6n : Nat) (l7 : List Int) (l7n : Nat) (x8 : Int) : St :=
  ⟨[(1, vi a2), (6, vo 0 0 1 l6n), (7, vo 1 0 1 l7n), (15, vc (tl e_Product default a1)), (16, vi ((a1.length : Nat) : Int)), (17, vi x8)], [(0, ro 0 3 1 l6n (rf e_i64 l6)), (1, ro 0 3 1 l7n (rf e_i64 l7))]⟩

def edge_Sizes_L1_T (l21 : List Int) (l22 : List Int) : St :=
  ⟨[(6, vo 0 0 1 l21.length), (7, vo 1 0 1 l22.length)], [(0, ro 0 3 1 l21.length (rf e_i64 l21)), (1, ro 0 3 1 l22.length (rf e_i64 l22))]⟩

set_option maxRecDepth 100000 in
theorem edge_Sizes_L1_ok (E : Env 0) (a1 : List Product) (a2 : Int) : ∀ (n : Nat) (l6 : List Int) (l6n : Nat) (l7 : List Int) (l7n : Nat) (x8 : Int) (res : (List Int) × (List Int)), l6.length = l6n → l7.length = l7n → edge_Sizes_L1 a1 a2 n l6 l7 x8 = some res → HL (kx E 49 0) (nd Tryd.f10 244) (loopQ0 0 (fun o => edge_Sizes_L1_T o.1 o.2) res) n (edge_Sizes_L1_S a1 a2 l6 l6n l7 l7n x8) := by
  intro n
  induction n with
  | zero =>
    intro l6 l6n l7 l7n x8 res hl0 hl1 hm
    cases hm
  | succ n ih =>
    intro l6 l6n l7 l7n x8 res hl0 hl1 hm
    subst hl0
    subst hl1
    refine HL_succ ?_
    refine R_sq Tryd.f10 488 489 (by kernel_rfl) ?_
    refine R_rn Tryd.f10 488 5 [] [] 2 ⟨[(1, vi a2), (6, vo 0 0 1 l6.length), (7, vo 1 0 1 l7.length), (15, vc (tl e_Product default a1)), (16, vi ((a1.length : Nat) : Int)), (17, vi x8), (18, vb (decide (x8 < ((a1.length : Nat) : Int))))], [(0, ro 0 3 1 l6.length (rf e_i64 l6)), (1, ro 0 3 1 l7.length (rf e_i64 l7))]⟩ o0 (by kernel_rfl) (by kernel_rfl) ?_
    refine R_sq Tryd.f10 978 979 (by kernel_rfl) ?_
    refine R_cn Tryd.f10 (.tmp 18) 1956 1957 (by kernel_rfl) (decide (x8 < ((a1.length : Nat) : Int))) (by kernel_rfl) (fun b9 => ?_) (fun b9 => ?_)
    · replace hm := bif_t b9 hm
      refine R_skip (by kernel_rfl) ?_
      refine R_join (ι := (List Int) × Nat × (List Int) × Nat) (nd Tryd.f10 1958) (nd Tryd.f10 1959) (by kernel_rfl) (fun p => edge_Sizes_k3_S a1 a2 x8 p.1 p.2.1 p.2.2.1 p.2.2.2) (fun p => p.1.length = p.2.1 ∧ p.2.2.1.length = p.2.2.2 ∧ edge_Sizes_k3 x8 (edge_Sizes_L1 a1 a2 n) p.1 p.2.2.1 = some res) ?_ ?_
      · rintro ⟨l19, l19n, l20, l20n⟩ ⟨el19, el20, hm⟩
        replace el19 : l19.length = l19n := el19
        subst el19
        replace el20 : l20.length = l20n := el20
        subst el20
        show H _ (edge_Sizes_k3_S a1 a2 x8 l19 l19.length l20 l20.length) (nd Tryd.f10 1959) _
        refine R_rn Tryd.f10 1959 14 [] [] 5 ⟨[(1, vi a2), (6, vo 0 0 1 l19.length), (7, vo 1 0 1 l20.length), (15, vc (tl e_Product default a1)), (16, vi ((a1.length : Nat) : Int)), (17, vi (w64 (x8 + 1)))], [(0, ro 0 3 1 l19.length (rf e_i64 l19)), (1, ro 0 3 1 l20.length (rf e_i64 l20))]⟩ o0 (by kernel_rfl) (by kernel_rfl) ?_
        exact HL_enter (edge_Sizes_L1_S a1 a2 l19 l19.length l20 l20.length (w64 (x8 + 1))) (by kernel_rfl) (by kernel_rfl) (ih l19 l19.length l20 l20.length (w64 (x8 + 1)) _ rfl rfl hm)
      · refine R_bk Tryd.f10 1 3916 (by kernel_rfl) ?_
        refine R_sq Tryd.f10 7832 7833 (by kernel_rfl) ?_
        obtain ⟨g10, hm⟩ := bif_n hm
        refine R_rn Tryd.f10 7832 6 [] [] 2 ⟨[(1, vi a2), (6, vo 0 0 1 l6.length), (7, vo 1 0 1 l7.length), (8, vi x8), (9, vp 2 0), (15, vc (tl e_Product default a1)), (16, vi ((a1.length : Nat) : Int)), (17, vi x8)], [(0, ro 0 3 1 l6.length (rf e_i64 l6)), (1, ro 0 3 1 l7.length (rf e_i64 l7)), (2, bx 43 [cs ((a1.getD x8.toNat default).Name), ci ((a1.getD x8.toNat default).Thick), ci ((a1.getD x8.toNat default).Width), ci ((a1.getD x8.toNat default).Allow), ci ((a1.getD x8.toNat default).Wane), tl e_i64 default ((a1.getD x8.toNat default).Lengths), tl e_i64 default ((a1.getD x8.toNat default).Prices)])]⟩ (o1 (inb_of g10)) (by kernel_rfl) (by kernel_rfl) ?_
        refine R_sq Tryd.f10 15666 15667 (by kernel_rfl) ?_
        obtain ⟨v11, h12, hm⟩ := bind_s hm
        refine R_rn Tryd.f10 15666 7 [(1, dex (cen [] [] 3 0 (product_Green_x v11) (product_Green_o v11) [23] []))] [] 3 ⟨[(1, vi a2), (6, vo 0 0 1 l6.length), (7, vo 1 0 1 l7.length), (8, vi x8), (10, vi v11.1), (11, vi v11.2), (15, vc (tl e_Product default a1)), (16, vi ((a1.length : Nat) : Int)), (17, vi x8)], [(0, ro 0 3 1 l6.length (rf e_i64 l6)), (1, ro 0 3 1 l7.length (rf e_i64 l7))]⟩ (o1 (callS (K := (kx E 49 0)) ⟨[(23, va [cs ((a1.getD x8.toNat default).Name), ci ((a1.getD x8.toNat default).Thick), ci ((a1.getD x8.toNat default).Width), ci ((a1.getD x8.toNat default).Allow), ci ((a1.getD x8.toNat default).Wane), tl e_i64 default ((a1.getD x8.toNat default).Lengths), tl e_i64 default ((a1.getD x8.toNat default).Prices)])], []⟩ (opAt (rg Tryd.f10 15666) 1) [] [] 3 o0 rfl (product_Green_ok (a1.getD x8.toNat default) v11 h12) (.inl rfl) (by kernel_rfl))) (by kernel_rfl) (by kernel_rfl) ?_
        refine R_join (ι := (List Int) × Nat) (nd Tryd.f10 31334) (nd Tryd.f10 31335) (by kernel_rfl) (fun p => edge_Sizes_k2_S a1 a2 l7 x8 p.1 p.2) (fun p => p.1.length = p.2 ∧ edge_Sizes_k2 l7 x8 (edge_Sizes_L1 a1 a2 n) p.1 = some res) ?_ ?_
        · rintro ⟨l17, l17n⟩ ⟨el17, hm⟩
          replace el17 : l17.length = l17n := el17
          subst el17
          show H _ (edge_Sizes_k2_S a1 a2 l7 x8 l17 l17.length) (nd Tryd.f10 31335) _
          obtain ⟨g18, hm⟩ := bif_n hm
          refine R_rn Tryd.f10 31335 13 [(2, drw 4 0 (rf e_i64 ([x8] : List Int))), (3, drw 1 1 (rf e_i64 (l7 ++ ([x8] : List Int))))] [] 4 ⟨[(1, vi a2), (6, vo 0 0 1 l17.length), (7, vo 1 1 1 (l7.length + 1)), (15, vc (tl e_Product default a1)), (16, vi ((a1.length : Nat) : Int)), (17, vi x8)], [(0, ro 0 3 1 l17.length (rf e_i64 l17)), (1, ro 1 3 1 (l7.length + 1) (rf e_i64 (l7 ++ ([x8] : List Int))))]⟩ (o1 (And.intro (litP e_i64 default 1 (fun _ => rfl) ([x8] : List Int) 1 rfl) (apP e_i64 default l7 ([x8] : List Int) l7.length 1 1 8 (1 ≤ 1) (Nat.le_refl _) rfl rfl (fun _ => rfl) (room_of g18)))) (by kernel_rfl) (by kernel_rfl) ?_
          exact J_mk (l17, l17.length, (l7 ++ ([x8] : List Int)), (l7.length + 1)) ⟨rfl, (len_app rfl rfl), hm⟩ (by kernel_rfl) (by kernel_rfl)
        · refine R_sq Tryd.f10 62668 62669 (by kernel_rfl) ?_
          refine R_rn Tryd.f10 62668 8 [] [] 3 ⟨[(1, vi a2), (6, vo 0 0 1 l6.length), (7, vo 1 0 1 l7.length), (8, vi x8), (10, vi v11.1), (11, vi v11.2), (15, vc (tl e_Product default a1)), (16, vi ((a1.length : Nat) : Int)), (17, vi x8), (27, vi a2)], [(0, ro 0 3 1 l6.length (rf e_i64 l6)), (1, ro 0 3 1 l7.length (rf e_i64 l7))]⟩ o0 (by kernel_rfl) (by kernel_rfl) ?_
          refine R_bk Tryd.f10 2 125338 (by kernel_rfl) ?_
          refine R_sq Tryd.f10 250676 250677 (by kernel_rfl) ?_
          refine R_rn Tryd.f10 250676 9 [] [] 3 ⟨[(1, vi a2), (6, vo 0 0 1 l6.length), (7, vo 1 0 1 l7.length), (8, vi x8), (10, vi v11.1), (11, vi v11.2), (15, vc (tl e_Product default a1)), (16, vi ((a1.length : Nat) : Int)), (17, vi x8), (27, vi a2), (28, vb (a2 == v11.1))], [(0, ro 0 3 1 l6.length (rf e_i64 l6)), (1, ro 0 3 1 l7.length (rf e_i64 l7))]⟩ o0 (by kernel_rfl) (by kernel_rfl) ?_
          refine R_cn Tryd.f10 (.tmp 28) 501354 501355 (by kernel_rfl) (a2 == v11.1) (by kernel_rfl) (fun b13 => ?_) (fun b13 => ?_)
          · replace hm := bif_t b13 hm
            obtain ⟨g14, hm⟩ := bif_n hm
            refine R_rn Tryd.f10 501354 10 [(2, drw 3 0 (rf e_i64 ([v11.2] : List Int))), (3, drw 0 1 (rf e_i64 (l6 ++ ([v11.2] : List Int))))] [] 3 ⟨[(1, vi a2), (6, vo 0 1 1 (l6.length + 1)), (7, vo 1 0 1 l7.length), (8, vi x8), (15, vc (tl e_Product default a1)), (16, vi ((a1.length : Nat) : Int)), (17, vi x8)], [(0, ro 1 3 1 (l6.length + 1) (rf e_i64 (l6 ++ ([v11.2] : List Int)))), (1, ro 0 3 1 l7.length (rf e_i64 l7))]⟩ (o1 (And.intro (litP e_i64 default 1 (fun _ => rfl) ([v11.2] : List Int) 1 rfl) (apP e_i64 default l6 ([v11.2] : List Int) l6.length 1 1 8 (1 ≤ 1) (Nat.le_refl _) rfl rfl (fun _ => rfl) (room_of g14)))) (by kernel_rfl) (by kernel_rfl) ?_
            exact J_mk ((l6 ++ ([v11.2] : List Int)), (l6.length + 1)) ⟨(len_app rfl rfl), hm⟩ (by kernel_rfl) (by kernel_rfl)
          · replace hm := bif_f b13 hm
            refine R_sq Tryd.f10 1002710 1002711 (by kernel_rfl) ?_
            refine R_rn Tryd.f10 1002710 11 [] [] 3 ⟨[(1, vi a2), (6, vo 0 0 1 l6.length), (7, vo 1 0 1 l7.length), (8, vi x8), (10, vi v11.1), (15, vc (tl e_Product default a1)), (16, vi ((a1.length : Nat) : Int)), (17, vi x8), (35, vb (a2 == v11.2))], [(0, ro 0 3 1 l6.length (rf e_i64 l6)), (1, ro 0 3 1 l7.length (rf e_i64 l7))]⟩ o0 (by kernel_rfl) (by kernel_rfl) ?_
            refine R_cn Tryd.f10 (.tmp 35) 2005422 2005423 (by kernel_rfl) (a2 == v11.2) (by kernel_rfl) (fun b15 => ?_) (fun b15 => ?_)
            · replace hm := bif_t b15 hm
              obtain ⟨g16, hm⟩ := bif_n hm
              refine R_rn Tryd.f10 2005422 12 [(2, drw 3 0 (rf e_i64 ([v11.1] : List Int))), (3, drw 0 1 (rf e_i64 (l6 ++ ([v11.1] : List Int))))] [] 3 ⟨[(1, vi a2), (6, vo 0 1 1 (l6.length + 1)), (7, vo 1 0 1 l7.length), (8, vi x8), (15, vc (tl e_Product default a1)), (16, vi ((a1.length : Nat) : Int)), (17, vi x8)], [(0, ro 1 3 1 (l6.length + 1) (rf e_i64 (l6 ++ ([v11.1] : List Int)))), (1, ro 0 3 1 l7.length (rf e_i64 l7))]⟩ (o1 (And.intro (litP e_i64 default 1 (fun _ => rfl) ([v11.1] : List Int) 1 rfl) (apP e_i64 default l6 ([v11.1] : List Int) l6.length 1 1 8 (1 ≤ 1) (Nat.le_refl _) rfl rfl (fun _ => rfl) (room_of g16)))) (by kernel_rfl) (by kernel_rfl) ?_
              exact J_mk ((l6 ++ ([v11.1] : List Int)), (l6.length + 1)) ⟨(len_app rfl rfl), hm⟩ (by kernel_rfl) (by kernel_rfl)
            · replace hm := bif_f b15 hm
              refine R_exit 1 (by kernel_rfl) ?_
              exact J_mk (l6, l6.length, l7, l7.length) ⟨rfl, rfl, hm⟩ (by kernel_rfl) (by kernel_rfl)
    · replace hm := bif_f b9 hm
      refine R_exit 0 (by kernel_rfl) ?_
      obtain rfl := Option.some.inj hm
      exact L0_mk (by kernel_rfl) (by kernel_rfl)

set_option maxRecDepth 100000 in
theorem edge_Sizes_ok (a1 : List Product) (a2 : Int) (r : (List Int) × (List Int)) (hm : edge_Sizes a1 a2 = some r) : CtX Tryd.prog globs 10 0 0 [.one (tl e_Product default a1), .one (ci a2)] [] (edge_Sizes_x r) (edge_Sizes_o r) := by
  unfold edge_Sizes at hm
  refine CtX_of_E (fn := Tryd.f10) (c := nd Tryd.f10 1) (nt := 49) (by kernel_rfl) (by kernel_rfl) (by kernel_rfl) (by kernel_rfl) fun E => ?_
  refine R_sq Tryd.f10 2 3 (by kernel_rfl) ?_
  refine R_rn Tryd.f10 2 0 [] [] 0 ⟨[(0, vc (tl e_Product default a1)), (1, vi a2)], []⟩ o0 (by kernel_rfl) (by kernel_rfl) ?_
  refine R_sq Tryd.f10 6 7 (by kernel_rfl) ?_
  refine R_sq Tryd.f10 12 13 (by kernel_rfl) ?_
  obtain ⟨v3, h4, hm⟩ := bind_s hm
  refine R_rn Tryd.f10 12 1 [(1, dex (cen [] [] 0 0 (product_Check_x v3) (product_Check_o v3) [12] []))] [] 0 ⟨[(0, vc (tl e_Product default a1)), (1, vi a2), (14, vb (v3 != 0))], []⟩ (o1 (callS (K := (kx E 49 0)) ⟨[(12, vc (tl e_Product default a1))], []⟩ (opAt (rg Tryd.f10 12) 1) [] [] 0 o0 rfl (product_Check_ok a1 v3 h4) (.inl rfl) (by kernel_rfl))) (by kernel_rfl) (by kernel_rfl) ?_
  refine R_cn Tryd.f10 (.tmp 14) 26 27 (by kernel_rfl) (v3 != 0) (by kernel_rfl) (fun b5 => ?_) (fun b5 => ?_)
  · replace hm := bif_t b5 hm
    refine R_sq Tryd.f10 52 53 (by kernel_rfl) ?_
    refine R_rn Tryd.f10 52 2 [] [] 0 ⟨[(4, vc (.emp)), (5, vc (.emp))], []⟩ o0 (by kernel_rfl) (by kernel_rfl) ?_
    refine H_fin [.own 4 0 3 1 (rf e_i64 ([] : List Int))] ⟨[(4, vo 0 0 1 0), (5, vc (.emp))], [(0, ro 0 3 1 0 (rf e_i64 ([] : List Int)))]⟩ o0 (by kernel_rfl) ?_
    refine H_fin [.own 5 1 3 1 (rf e_i64 ([] : List Int))] ⟨[(4, vo 0 0 1 0), (5, vo 1 0 1 0)], [(0, ro 0 3 1 0 (rf e_i64 ([] : List Int))), (1, ro 0 3 1 0 (rf e_i64 ([] : List Int)))]⟩ o0 (by kernel_rfl) ?_
    refine H_fin [.len 0 (([] : List Int).length)] ⟨[(4, vo 0 0 1 (([] : List Int).length)), (5, vo 1 0 1 0)], [(0, ro 0 3 1 (([] : List Int).length) (rf e_i64 ([] : List Int))), (1, ro 0 3 1 0 (rf e_i64 ([] : List Int)))]⟩ (o1 (And.intro (show 0 = ([] : List Int).length from rfl) (show 0 = ([] : List Int).length from rfl))) (by kernel_rfl) ?_
    refine H_fin [.len 1 (([] : List Int).length)] ⟨[(4, vo 0 0 1 (([] : List Int).length)), (5, vo 1 0 1 (([] : List Int).length))], [(0, ro 0 3 1 (([] : List Int).length) (rf e_i64 ([] : List Int))), (1, ro 0 3 1 (([] : List Int).length) (rf e_i64 ([] : List Int)))]⟩ (o1 (And.intro (show 0 = ([] : List Int).length from rfl) (show 0 = ([] : List Int).length from rfl))) (by kernel_rfl) ?_
    obtain rfl := Option.some.inj hm
    refine R_ret (by kernel_rfl) ?_
    exact ret_mk (by kernel_rfl) (by kernel_rfl)
  · replace hm := bif_f b5 hm
    refine R_skip (by kernel_rfl) ?_
    refine R_sq Tryd.f10 14 15 (by kernel_rfl) ?_
    refine R_rn Tryd.f10 14 3 [] [] 0 ⟨[(0, vc (tl e_Product default a1)), (1, vi a2), (6, vc (.emp)), (7, vc (.emp))], []⟩ o0 (by kernel_rfl) (by kernel_rfl) ?_
    refine R_sq Tryd.f10 30 31 (by kernel_rfl) ?_
    refine R_sq Tryd.f10 60 61 (by kernel_rfl) ?_
    refine R_rn Tryd.f10 60 4 [] [] 0 ⟨[(1, vi a2), (6, vc (.emp)), (7, vc (.emp)), (15, vc (tl e_Product default a1)), (16, vi ((a1.length : Nat) : Int)), (17, vi 0)], []⟩ o0 (by kernel_rfl) (by kernel_rfl) ?_
    refine H_fin [.own 6 0 3 1 (rf e_i64 ([] : List Int))] ⟨[(1, vi a2), (6, vo 0 0 1 0), (7, vc (.emp)), (15, vc (tl e_Product default a1)), (16, vi ((a1.length : Nat) : Int)), (17, vi 0)], [(0, ro 0 3 1 0 (rf e_i64 ([] : List Int)))]⟩ o0 (by kernel_rfl) ?_
    refine H_fin [.own 7 1 3 1 (rf e_i64 ([] : List Int))] ⟨[(1, vi a2), (6, vo 0 0 1 0), (7, vo 1 0 1 0), (15, vc (tl e_Product default a1)), (16, vi ((a1.length : Nat) : Int)), (17, vi 0)], [(0, ro 0 3 1 0 (rf e_i64 ([] : List Int))), (1, ro 0 3 1 0 (rf e_i64 ([] : List Int)))]⟩ o0 (by kernel_rfl) ?_
    obtain ⟨o23, h24, hm⟩ := bind_s hm
    refine R_loop0 (nd Tryd.f10 244) 0 (by kernel_rfl) FUEL (fun o => edge_Sizes_L1_T o.1 o.2) o23 (HL_enter (edge_Sizes_L1_S a1 a2 ([] : List Int) 0 ([] : List Int) 0 0) (by kernel_rfl) (by kernel_rfl) (edge_Sizes_L1_ok E a1 a2 FUEL ([] : List Int) 0 ([] : List Int) 0 0 o23 rfl rfl h24)) ?_
    refine R_sq Tryd.f10 62 63 (by kernel_rfl) ?_
    refine R_rn Tryd.f10 62 15 [] [] 2 ⟨[(4, vo 0 0 1 o23.1.length), (5, vo 1 0 1 o23.2.length)], [(0, ro 0 3 1 o23.1.length (rf e_i64 o23.1)), (1, ro 0 3 1 o23.2.length (rf e_i64 o23.2))]⟩ o0 (by kernel_rfl) (by kernel_rfl) ?_
    obtain rfl := Option.some.inj hm
    refine R_ret (by kernel_rfl) ?_
    exact ret_mk (by kernel_rfl) (by kernel_rfl)

end Saw
end Go.SL
