import Derived.Test.YtgpgnlllieekbaaDoorEBase
import Derived.Test.YtgpgnlllieekbaaDoorEFa1
import Derived.Test.YtgpgnlllieekbaaDoorEFa2
import Derived.Test.YtgpgnlllieekbaaDoorEFa3
set_option linter.unusedVariables false
set_option linter.unusedSimpArgs false
namespace Go.SL
namespace Saw
open Go.Proofs
set_option maxHeartbeats 4000000

def solid_Within_x (r : Int) : V := vi r

def solid_Within_o (r : Int) : List (Nat × (Nat × O)) := []

theorem solid_Within_f (r : Int) : Frozen (solid_Within_o r) := by
 intro i k o h
 unfold solid_Within_o at h
 cases h

def solid_Within_k2_S (a2 : Box) (v3 : (List Slice)) (v5 : (List Span)) (x8 : Int) (x19 : Int) : St :=
 ⟨[(0, vc (tl e_Slice default v3)), (3, vp 0 0), (5, vi x19), (12, vo 1 0 2 v5.length), (13, vi ((v5.length : Nat) : Int)), (14, vi x8)], [(0, bx 57 (e_Box a2)), (1, ro 0 33 2 v5.length (rf e_Span v5))]⟩

def solid_Within_L1_S (a2 : Box) (v3 : (List Slice)) (v5 : (List Span)) (x7 : Int) (x8 : Int) : St :=
 ⟨[(0, vc (tl e_Slice default v3)), (3, vp 0 0), (5, vi x7), (12, vo 1 0 2 v5.length), (13, vi ((v5.length : Nat) : Int)), (14, vi x8)], [(0, bx 57 (e_Box a2)), (1, ro 0 33 2 v5.length (rf e_Span v5))]⟩

def solid_Within_L1_T (x20 : Int) : St :=
 ⟨[(5, vi x20)], []⟩

set_option maxRecDepth 100000 in
theorem solid_Within_L1_ok (E : Env 0) (a2 : Box) (v3 : (List Slice)) (v5 : (List Span)) : ∀ (n : Nat) (x7 : Int) (x8 : Int) (res : Int), solid_Within_L1 a2 v3 v5 n x7 x8 = some res → HL (kx E 43 0) (nd Tryd.f17 244) (loopQ0 0 (fun o => solid_Within_L1_T o) res) n (solid_Within_L1_S a2 v3 v5 x7 x8) := by
 intro n
 induction n with
 | zero =>
  intro x7 x8 res hm
  cases hm
 | succ n ih =>
  intro x7 x8 res hm
  refine HL_succ ?_
  refine q_sq ?_
  refine q_vu [] 2 [] [(15, vb (decide (x8 < ((v5.length : Nat) : Int))))] [] [] ?_
  refine q_sq ?_
  refine q_cn (decide (x8 < ((v5.length : Nat) : Int))) (fun b9 => ?_) (fun b9 => ?_)
  ·replace hm := bif_t b9 hm
   refine q_sk ?_
   refine q_jn (ι := Int) (fun p => solid_Within_k2_S a2 v3 v5 x8 p) (fun p => solid_Within_k2 x8 (solid_Within_L1 a2 v3 v5 n) p = some res) ?_ ?_
   ·rintro x19 hm
    show H _ (solid_Within_k2_S a2 v3 v5 x8 x19) _ _
    refine q_vu [] 3 [14] [(14, vi (w64 (x8 + 1)))] [] [] ?_
    exact q_hl (solid_Within_L1_S a2 v3 v5 x19 (w64 (x8 + 1))) (ih x19 (w64 (x8 + 1)) _ hm)
   ·refine q_bk 1 ?_
    refine q_sq ?_
    obtain ⟨g10, hm⟩ := bif_n hm
    refine q_vu [qd 1 (Dir.none) (inb_of g10), qd 2 (Dir.none) (toNat_lt (inb_of g10))] 2 [15] [(6, vi x8), (7, vp 2 0)] [] [(2, bx 33 [ci ((v5.getD x8.toNat default).A), ci ((v5.getD x8.toNat default).B)])] ?_
    refine q_sq ?_
    obtain ⟨v11, h12, hm⟩ := bind_s hm
    obtain ⟨v13, h14, hm⟩ := bind_s hm
    refine q_vu [qc 3 [19, 21] 3 (span_Meet_ok (v5.getD x8.toNat default) a2.Z v11 h12), qc 4 [22] 3 (span_Len_ok v11 v13 h14)] 3 [7] [(8, vi v13)] [2] [] ?_
    refine q_sq ?_
    refine q_vu [] 3 [] [(25, vb (decide (v13 > 0)))] [] [] ?_
    refine q_cn (decide (v13 > 0)) (fun b15 => ?_) (fun b15 => ?_)
    ·replace hm := bif_t b15 hm
     obtain ⟨g16, hm⟩ := bif_n hm
     obtain ⟨v17, h18, hm⟩ := bind_s hm
     refine q_du [qd 4 (Dir.none) (inb_of g16), qc 12 [32, 37] 3 (section_Within_ok ((v3.getD x8.toNat default).Sec) (Rect.mk a2.X a2.Y) v17 h18)] [0, 0, 0, 0, 12, 28, 60, 0, 128, 0, 512, 1920, 4092, 8190, 16383, 32767] 3 [5, 6, 8, 25] [(5, vi (w64 (x7 + (w64 (v13 * v17)))))] [] [] ?_
     exact q_J (w64 (x7 + (w64 (v13 * v17)))) hm
    ·replace hm := bif_f b15 hm
     refine q_sk ?_
     exact q_J (x7) hm
  ·replace hm := bif_f b9 hm
   refine q_ex 0 ?_
   obtain rfl := Option.some.inj hm
   exact L0_mk (by kernel_rfl) (by kernel_rfl)

set_option maxRecDepth 100000 in
theorem solid_Within_ok (a1 : List Slice) (a2 : Box) (r : Int) (hm : solid_Within a1 a2 = some r) : CtX Tryd.prog globs 17 0 0 [.one (tl e_Slice default a1), .agg (e_Box a2)] [] (solid_Within_x r) (solid_Within_o r) := by
 unfold solid_Within at hm
 refine q_E Tryd.f17 43 fun E => ?_
 refine q_sq ?_
 refine q_vn [] 0 ⟨[(0, vc (tl e_Slice default a1)), (3, vp 0 0)], [(0, bx 57 (e_Box a2))]⟩ ?_
 refine q_sq ?_
 obtain ⟨v3, h4, hm⟩ := bind_s hm
 refine q_vu [qc 1 [9] 1 (solid_valid_ok a1 v3 h4)] 1 [0] [(0, vc (tl e_Slice default v3))] [] [] ?_
 refine q_sq ?_
 refine q_vu [] 1 [] [(5, vi 0)] [] [] ?_
 refine q_sq ?_
 refine q_sq ?_
 obtain ⟨v5, h6, hm⟩ := bind_s hm
 refine q_vu [qc 1 [11] 1 (solid_extents_ok v3 v5 h6)] 1 [] [(12, vo 1 0 2 v5.length), (13, vi ((v5.length : Nat) : Int)), (14, vi 0)] [] [(1, ro 0 33 2 v5.length (rf e_Span v5))] ?_
 obtain ⟨o21, h22, hm⟩ := bind_s hm
 refine R_loop0 (nd Tryd.f17 244) 0 (by kernel_rfl) FUEL (fun o => solid_Within_L1_T o) o21 (q_hl (solid_Within_L1_S a2 v3 v5 0 0) (solid_Within_L1_ok E a2 v3 v5 FUEL 0 0 o21 h22)) ?_
 refine q_sq ?_
 refine q_vn [] 2 ⟨[(4, vi o21)], []⟩ ?_
 obtain rfl := Option.some.inj hm
 refine q_rt ?_
 exact q_rm

end Saw
end Go.SL

namespace Go.SL
namespace Saw
open Go.Proofs
set_option maxHeartbeats 4000000

def edge_volume_x (r : Int) : V := vi r

def edge_volume_o (r : Int) : List (Nat × (Nat × O)) := []

theorem edge_volume_f (r : Int) : Frozen (edge_volume_o r) := by
 intro i k o h
 unfold edge_volume_o at h
 cases h

set_option maxRecDepth 100000 in
theorem edge_volume_ok (a1 : List Slice) (a2 : Rect) (a3 : Span) (r : Int) (hm : edge_volume a1 a2 a3 = some r) : CtX Tryd.prog globs 62 0 0 [.one (tl e_Slice default a1), .agg (e_Rect a2), .agg (e_Span a3)] [] (edge_volume_x r) (edge_volume_o r) := by
 unfold edge_volume at hm
 refine q_E Tryd.f62 15 fun E => ?_
 refine q_sq ?_
 refine q_vn [] 0 ⟨[(0, vc (tl e_Slice default a1)), (4, vp 0 0), (5, vp 1 0)], [(0, bx 35 (e_Rect a2)), (1, bx 33 (e_Span a3))]⟩ ?_
 refine q_sq ?_
 obtain ⟨v4, h5, hm⟩ := bind_s hm
 refine q_vn [qc 7 [7, 13] 2 (solid_Within_ok a1 (Box.mk a2.X a2.Y a3) v4 h5)] 2 ⟨[(6, vi v4)], []⟩ ?_
 obtain rfl := Option.some.inj hm
 refine q_rt ?_
 exact q_rm

end Saw
end Go.SL

namespace Go.SL
namespace Saw
open Go.Proofs
set_option maxHeartbeats 4000000

def edge_gain_x (r : Int) : V := vi r

def edge_gain_o (r : Int) : List (Nat × (Nat × O)) := []

theorem edge_gain_f (r : Int) : Frozen (edge_gain_o r) := by
 intro i k o h
 unfold edge_gain_o at h
 cases h

set_option maxRecDepth 100000 in
theorem edge_gain_ok (a1 : List Slice) (a2 : List Defect) (a3 : Product) (a4 : Rect) (a5 : Saw) (a6 : Rates) (r : Int) (hm : edge_gain a1 a2 a3 a4 a5 a6 = some r) : CtX Tryd.prog globs 61 0 0 [.one (tl e_Slice default a1), .one (tl e_Defect default a2), .agg (e_Product a3), .agg (e_Rect a4), .agg (e_Saw a5), .agg (e_Rates a6)] [] (edge_gain_x r) (edge_gain_o r) := by
 unfold edge_gain at hm
 refine q_E Tryd.f61 89 fun E => ?_
 refine q_sq ?_
 refine q_vn [] 0 ⟨[(0, vc (tl e_Slice default a1)), (1, vc (tl e_Defect default a2)), (8, vp 0 0), (9, vp 1 0), (10, vp 2 0), (11, vp 3 0)], [(0, bx 43 (e_Product a3)), (1, bx 35 (e_Rect a4)), (2, bx 37 (e_Saw a5)), (3, bx 39 (e_Rates a6))]⟩ ?_
 refine q_sq ?_
 obtain ⟨v7, h8, hm⟩ := bind_s hm
 refine q_vu [qc 8 [21, 22, 23, 24, 26, 28] 4 (worth_Best_ok a1 a2 a3 a4 a5.Step a6.Fine v7 h8)] 4 [1, 8] [(13, vp 4 0), (14, vi v7.2.1), (15, vb v7.2.2)] [0] [(4, bx 33 (e_Span v7.1))] ?_
 refine q_sq ?_
 refine q_sq ?_
 refine q_vu [] 5 [15] [(34, vb (!v7.2.2))] [] [] ?_
 refine q_cn (!v7.2.2) (fun b9 => ?_) (fun b9 => ?_)
 ·replace hm := bif_t b9 hm
  refine q_sq ?_
  refine q_vn [] 5 ⟨[(12, vi (-1))], []⟩ ?_
  obtain rfl := Option.some.inj hm
  refine q_rt ?_
  exact q_rm
 ·replace hm := bif_f b9 hm
  refine q_sk ?_
  refine q_sq ?_
  obtain ⟨v10, h11, hm⟩ := bind_s hm
  refine q_vu [qc 1 [35] 5 (solid_Length_ok a1 v10 h11)] 5 [34] [(16, vi v10)] [] [] ?_
  refine q_sq ?_
  obtain ⟨v12, h13, hm⟩ := bind_s hm
  refine q_vu [qc 4 [37, 38, 40] 5 (edge_volume_ok a1 a4 (Span.mk 0 v10) v12 h13)] 5 [] [(17, vi v12)] [] [] ?_
  refine q_sq ?_
  obtain ⟨v14, h15, hm⟩ := bind_s hm
  refine q_vu [qc 3 [42, 43, 44] 5 (edge_volume_ok a1 a4 v7.1 v14 h15)] 5 [] [(18, vi v14)] [] [] ?_
  refine q_sq ?_
  obtain ⟨v16, h17, hm⟩ := bind_s hm
  refine q_vu [qc 11 [46, 47, 56] 5 (edge_volume_ok a1 a4 (Span.mk (imax 0 (w64 (v7.1.A - a5.Trim))) v7.1.A) v16 h17)] 5 [] [(19, vi v16)] [] [] ?_
  refine q_sq ?_
  obtain ⟨v18, h19, hm⟩ := bind_s hm
  refine q_vu [qc 13 [59, 60, 70] 5 (edge_volume_ok a1 a4 (Span.mk v7.1.B (imin (w64 (v7.1.B + a5.Trim)) v10)) v18 h19)] 5 [0, 9, 10, 13, 16, 19] [(19, vi (w64 (v16 + v18)))] [1, 2, 4] [] ?_
  refine q_sq ?_
  refine q_vn [] 5 ⟨[(12, vi (w64 ((w64 ((w64 (1000000 * v7.2.1)) + (w64 (a6.Dust * (w64 (v16 + v18)))))) + (w64 (a6.Chip * (w64 ((w64 (v12 - v14)) - (w64 (v16 + v18)))))))))], []⟩ ?_
  obtain rfl := Option.some.inj hm
  refine q_rt ?_
  exact q_rm

end Saw
end Go.SL

namespace Go.SL
namespace Saw
open Go.Proofs
set_option maxHeartbeats 4000000

def worth_Check_x (r : Int) : V := vi r

def worth_Check_o (r : Int) : List (Nat × (Nat × O)) := []

theorem worth_Check_f (r : Int) : Frozen (worth_Check_o r) := by
 intro i k o h
 unfold worth_Check_o at h
 cases h

def worth_Check_k3_S (x20 : Bool) : St :=
 ⟨[(60, vb x20)], []⟩

def worth_Check_k2_S (a2 : Rates) (x12 : Bool) : St :=
 ⟨[(3, vp 1 0), (36, vb x12)], [(1, bx 39 (e_Rates a2))]⟩

def worth_Check_k1_S (a1 : Saw) (a2 : Rates) (x6 : Bool) : St :=
 ⟨[(2, vp 0 0), (3, vp 1 0), (22, vb x6)], [(0, bx 37 (e_Saw a1)), (1, bx 39 (e_Rates a2))]⟩

set_option maxRecDepth 100000 in
theorem worth_Check_ok (a1 : Saw) (a2 : Rates) (r : Int) (hm : worth_Check a1 a2 = some r) : CtX Tryd.prog globs 72 0 0 [.agg (e_Saw a1), .agg (e_Rates a2)] [] (worth_Check_x r) (worth_Check_o r) := by
 unfold worth_Check at hm
 refine q_E Tryd.f72 61 fun E => ?_
 refine q_sq ?_
 refine q_vn [] 0 ⟨[(2, vp 0 0), (3, vp 1 0)], [(0, bx 37 (e_Saw a1)), (1, bx 39 (e_Rates a2))]⟩ ?_
 refine q_sq ?_
 refine q_jn (ι := Bool) (fun p => worth_Check_k1_S a1 a2 p) (fun p => worth_Check_k1 a1 a2 p = some r) ?_ ?_
 ·rintro x6 hm
  show H _ (worth_Check_k1_S a1 a2 x6) _ _
  refine q_cn x6 (fun b7 => ?_) (fun b7 => ?_)
  ·replace hm := bif_t b7 hm
   refine q_sq ?_
   refine q_vn [] 2 ⟨[(4, vi 9)], []⟩ ?_
   obtain rfl := Option.some.inj hm
   refine q_rt ?_
   exact q_rm
  ·replace hm := bif_f b7 hm
   refine q_sk ?_
   refine q_sq ?_
   refine q_jn (ι := Bool) (fun p => worth_Check_k2_S a2 p) (fun p => worth_Check_k2 a2 p = some r) ?_ ?_
   ·rintro x12 hm
    show H _ (worth_Check_k2_S a2 x12) _ _
    refine q_cn x12 (fun b13 => ?_) (fun b13 => ?_)
    ·replace hm := bif_t b13 hm
     refine q_sq ?_
     refine q_vn [] 2 ⟨[(4, vi 9)], []⟩ ?_
     obtain rfl := Option.some.inj hm
     refine q_rt ?_
     exact q_rm
    ·replace hm := bif_f b13 hm
     refine q_sk ?_
     refine q_sq ?_
     refine q_jn (ι := Bool) (fun p => worth_Check_k3_S p) (fun p => worth_Check_k3 p = some r) ?_ ?_
     ·rintro x20 hm
      show H _ (worth_Check_k3_S x20) _ _
      refine q_cn x20 (fun b21 => ?_) (fun b21 => ?_)
      ·replace hm := bif_t b21 hm
       refine q_sq ?_
       refine q_vn [] 2 ⟨[(4, vi 9)], []⟩ ?_
       obtain rfl := Option.some.inj hm
       refine q_rt ?_
       exact q_rm
      ·replace hm := bif_f b21 hm
       refine q_sk ?_
       refine q_sq ?_
       refine q_vn [] 2 ⟨[(4, vi 0)], []⟩ ?_
       obtain rfl := Option.some.inj hm
       refine q_rt ?_
       exact q_rm
     ·rcases Bool.eq_false_or_eq_true (decide (a2.Chip < 0)) with b14 | b14
      ·replace hm := bif_t b14 hm
       refine q_vn [qf 3 b14] 2 ⟨[(60, vb true)], []⟩ ?_
       exact q_J (true) hm
      ·replace hm := bif_f b14 hm
       rcases Bool.eq_false_or_eq_true (decide (a2.Chip > 1000)) with b15 | b15
       ·replace hm := bif_t b15 hm
        refine q_vn [qf 3 b14, qf 8 b15] 2 ⟨[(60, vb true)], []⟩ ?_
        exact q_J (true) hm
       ·replace hm := bif_f b15 hm
        rcases Bool.eq_false_or_eq_true (decide (a2.Dust < 0)) with b16 | b16
        ·replace hm := bif_t b16 hm
         refine q_vn [qf 3 b14, qf 8 b15, qf 13 b16] 2 ⟨[(60, vb true)], []⟩ ?_
         exact q_J (true) hm
        ·replace hm := bif_f b16 hm
         rcases Bool.eq_false_or_eq_true (decide (a2.Dust > 1000)) with b17 | b17
         ·replace hm := bif_t b17 hm
          refine q_vn [qf 3 b14, qf 8 b15, qf 13 b16, qf 18 b17] 2 ⟨[(60, vb true)], []⟩ ?_
          exact q_J (true) hm
         ·replace hm := bif_f b17 hm
          obtain ⟨v18, h19, hm⟩ := bind_s hm
          refine q_vn [qf 3 b14, qf 8 b15, qf 13 b16, qf 18 b17, qk 21 [55, 57] 2 ⟨[(55, vb false), (57, vi a2.Fine)], []⟩ (worth_isFine_ok a2.Fine v18 h19)] 2 ⟨[(60, vb (!v18))], []⟩ ?_
          exact q_J (!v18) hm
   ·rcases Bool.eq_false_or_eq_true (decide (a1.Pitch < 1)) with b8 | b8
    ·replace hm := bif_t b8 hm
     refine q_vu [qf 3 b8] 2 [2, 22] [(36, vb true)] [0] [] ?_
     exact q_J (true) hm
    ·replace hm := bif_f b8 hm
     rcases Bool.eq_false_or_eq_true (decide (a1.Pitch > 2000)) with b9 | b9
     ·replace hm := bif_t b9 hm
      refine q_vu [qf 3 b8, qf 8 b9] 2 [2, 22] [(36, vb true)] [0] [] ?_
      exact q_J (true) hm
     ·replace hm := bif_f b9 hm
      obtain ⟨v10, h11, hm⟩ := bind_s hm
      refine q_vu [qf 3 b8, qf 8 b9, qk 11 [31, 33] 2 ⟨[(31, vb false), (33, vi a1.Step)], []⟩ (worth_isStep_ok a1.Step v10 h11)] 2 [2, 22] [(36, vb (!v10))] [0] [] ?_
      exact q_J (!v10) hm
 ·rcases Bool.eq_false_or_eq_true (decide (a1.Kerf < 0)) with b3 | b3
  ·replace hm := bif_t b3 hm
   refine q_vu [qf 3 b3] 2 [] [(22, vb true)] [] [] ?_
   exact q_J (true) hm
  ·replace hm := bif_f b3 hm
   rcases Bool.eq_false_or_eq_true (decide (a1.Kerf > 20)) with b4 | b4
   ·replace hm := bif_t b4 hm
    refine q_vu [qf 3 b3, qf 8 b4] 2 [] [(22, vb true)] [] [] ?_
    exact q_J (true) hm
   ·replace hm := bif_f b4 hm
    rcases Bool.eq_false_or_eq_true (decide (a1.Trim < 0)) with b5 | b5
    ·replace hm := bif_t b5 hm
     refine q_vu [qf 3 b3, qf 8 b4, qf 13 b5] 2 [] [(22, vb true)] [] [] ?_
     exact q_J (true) hm
    ·replace hm := bif_f b5 hm
     refine q_vu [qf 3 b3, qf 8 b4, qf 13 b5] 2 [] [(22, vb (decide (a1.Trim > 20)))] [] [] ?_
     exact q_J (decide (a1.Trim > 20)) hm

end Saw
end Go.SL

namespace Go.SL
namespace Saw
open Go.Proofs
set_option maxHeartbeats 4000000

def edge_check_x (r : Int) : V := vi r

def edge_check_o (r : Int) : List (Nat × (Nat × O)) := []

theorem edge_check_f (r : Int) : Frozen (edge_check_o r) := by
 intro i k o h
 unfold edge_check_o at h
 cases h

def edge_check_k3_S (a4 : Rect) (x22 : Int) (x26 : Bool) : St :=
 ⟨[(68, va (e_Rect a4)), (69, vi x22), (77, vb x26)], []⟩

def edge_check_L2_S (a4 : Rect) (x22 : Int) : St :=
 ⟨[(68, va (e_Rect a4)), (69, vi x22)], []⟩

def edge_check_L2_T : St :=
 ⟨[], []⟩

def edge_check_k1_S (a4 : Rect) (x20 : Bool) : St :=
 ⟨[(9, vp 0 0), (55, vb x20)], [(0, bx 35 (e_Rect a4))]⟩

set_option maxRecDepth 100000 in
theorem edge_check_L2_ok (E : Env 0) (a4 : Rect) : ∀ (n : Nat) (x22 : Int) (res : Int ⊕ Unit), edge_check_L2 a4 n x22 = some res → HL (kx E 79 0) (nd Tryd.f60 2036) (loopQ 0 (fun o => edge_check_L2_T) (fun v st => RetQ Tryd.prog Tryd.f60 (edge_check_x v) (edge_check_o v) .ret st) res) n (edge_check_L2_S a4 x22) := by
 intro n
 induction n with
 | zero =>
  intro x22 res hm
  cases hm
 | succ n ih =>
  intro x22 res hm
  refine HL_succ ?_
  refine q_sq ?_
  refine q_vu [] 3 [] [(70, vb (decide (x22 < 4)))] [] [] ?_
  refine q_sq ?_
  refine q_cn (decide (x22 < 4)) (fun b23 => ?_) (fun b23 => ?_)
  ·replace hm := bif_t b23 hm
   refine q_sk ?_
   refine q_sq ?_
   refine q_bk 1 ?_
   refine q_sq ?_
   obtain ⟨g24, hm⟩ := bif_n hm
   refine q_vu [qd 0 (Dir.none) (inb_of g24)] 3 [70] [(18, vi (([a4.X.A, a4.X.B, a4.Y.A, a4.Y.B] : List Int).getD x22.toNat 0))] [] [] ?_
   refine q_jn (ι := Bool) (fun p => edge_check_k3_S a4 x22 p) (fun p => edge_check_k3 x22 (edge_check_L2 a4 n) p = some res) ?_ ?_
   ·rintro x26 hm
    show H _ (edge_check_k3_S a4 x22 x26) _ _
    refine q_cn x26 (fun b27 => ?_) (fun b27 => ?_)
    ·replace hm := bif_t b27 hm
     refine q_sq ?_
     refine q_vn [] 3 ⟨[(12, vi 9)], []⟩ ?_
     obtain rfl := Option.some.inj hm
     refine q_rt ?_
     refine L1_ret 9 ?_
     exact q_rm
    ·replace hm := bif_f b27 hm
     refine q_sk ?_
     refine q_vu [] 3 [69, 77] [(69, vi (w64 (x22 + 1)))] [] [] ?_
     exact q_hl (edge_check_L2_S a4 (w64 (x22 + 1))) (ih (w64 (x22 + 1)) _ hm)
   ·rcases Bool.eq_false_or_eq_true (decide ((([a4.X.A, a4.X.B, a4.Y.A, a4.Y.B] : List Int).getD x22.toNat 0) < (-600))) with b25 | b25
    ·replace hm := bif_t b25 hm
     refine q_vu [qf 2 b25] 3 [18] [(77, vb true)] [] [] ?_
     exact q_J (true) hm
    ·replace hm := bif_f b25 hm
     refine q_vu [qf 2 b25] 3 [18] [(75, vi (([a4.X.A, a4.X.B, a4.Y.A, a4.Y.B] : List Int).getD x22.toNat 0)), (76, vb (decide ((([a4.X.A, a4.X.B, a4.Y.A, a4.Y.B] : List Int).getD x22.toNat 0) > 600))), (77, vb (decide ((([a4.X.A, a4.X.B, a4.Y.A, a4.Y.B] : List Int).getD x22.toNat 0) > 600)))] [] [] ?_
     exact q_J (decide ((([a4.X.A, a4.X.B, a4.Y.A, a4.Y.B] : List Int).getD x22.toNat 0) > 600)) hm
  ·replace hm := bif_f b23 hm
   refine q_ex 0 ?_
   obtain rfl := Option.some.inj hm
   exact L1_mk () (by kernel_rfl) (by kernel_rfl)

set_option maxRecDepth 100000 in
theorem edge_check_ok (a1 : List Slice) (a2 : List Defect) (a3 : List Product) (a4 : Rect) (a5 : Saw) (a6 : Rates) (r : Int) (hm : edge_check a1 a2 a3 a4 a5 a6 = some r) : CtX Tryd.prog globs 60 0 0 [.one (tl e_Slice default a1), .one (tl e_Defect default a2), .one (tl e_Product default a3), .agg (e_Rect a4), .agg (e_Saw a5), .agg (e_Rates a6)] [] (edge_check_x r) (edge_check_o r) := by
 unfold edge_check at hm
 refine q_E Tryd.f60 79 fun E => ?_
 refine q_sq ?_
 refine q_vn [] 0 ⟨[(0, vc (tl e_Slice default a1)), (1, vc (tl e_Defect default a2)), (2, vc (tl e_Product default a3)), (9, vp 0 0), (10, vp 1 0), (11, vp 2 0)], [(0, bx 35 (e_Rect a4)), (1, bx 37 (e_Saw a5)), (2, bx 39 (e_Rates a6))]⟩ ?_
 refine q_sq ?_
 refine q_sq ?_
 obtain ⟨v7, h8, hm⟩ := bind_s hm
 refine q_vu [qc 1 [19] 3 (solid_Check_ok a1 v7 h8)] 3 [0] [(13, vi v7)] [] [] ?_
 refine q_sq ?_
 refine q_vu [] 3 [] [(22, vb (v7 != 0))] [] [] ?_
 refine q_cn (v7 != 0) (fun b9 => ?_) (fun b9 => ?_)
 ·replace hm := bif_t b9 hm
  refine q_sq ?_
  refine q_vn [] 3 ⟨[(12, vi v7)], []⟩ ?_
  obtain rfl := Option.some.inj hm
  refine q_rt ?_
  exact q_rm
 ·replace hm := bif_f b9 hm
  refine q_sk ?_
  refine q_sq ?_
  refine q_sq ?_
  obtain ⟨v10, h11, hm⟩ := bind_s hm
  refine q_vu [qc 1 [24] 3 (defect_Check_ok a2 v10 h11)] 3 [1, 13, 22] [(14, vi v10)] [] [] ?_
  refine q_sq ?_
  refine q_vu [] 3 [] [(27, vb (v10 != 0))] [] [] ?_
  refine q_cn (v10 != 0) (fun b12 => ?_) (fun b12 => ?_)
  ·replace hm := bif_t b12 hm
   refine q_sq ?_
   refine q_vn [] 3 ⟨[(12, vi v10)], []⟩ ?_
   obtain rfl := Option.some.inj hm
   refine q_rt ?_
   exact q_rm
  ·replace hm := bif_f b12 hm
   refine q_sk ?_
   refine q_sq ?_
   refine q_sq ?_
   obtain ⟨v13, h14, hm⟩ := bind_s hm
   refine q_vu [qc 1 [29] 3 (product_Check_ok a3 v13 h14)] 3 [2, 14, 27] [(15, vi v13)] [] [] ?_
   refine q_sq ?_
   refine q_vu [] 3 [] [(32, vb (v13 != 0))] [] [] ?_
   refine q_cn (v13 != 0) (fun b15 => ?_) (fun b15 => ?_)
   ·replace hm := bif_t b15 hm
    refine q_sq ?_
    refine q_vn [] 3 ⟨[(12, vi v13)], []⟩ ?_
    obtain rfl := Option.some.inj hm
    refine q_rt ?_
    exact q_rm
   ·replace hm := bif_f b15 hm
    refine q_sk ?_
    refine q_sq ?_
    refine q_sq ?_
    obtain ⟨v16, h17, hm⟩ := bind_s hm
    refine q_vu [qc 2 [34, 35] 3 (worth_Check_ok a5 a6 v16 h17)] 3 [10, 11, 15, 32] [(16, vi v16)] [1, 2] [] ?_
    refine q_sq ?_
    refine q_vu [] 3 [] [(38, vb (v16 != 0))] [] [] ?_
    refine q_cn (v16 != 0) (fun b18 => ?_) (fun b18 => ?_)
    ·replace hm := bif_t b18 hm
     refine q_sq ?_
     refine q_vn [] 3 ⟨[(12, vi v16)], []⟩ ?_
     obtain rfl := Option.some.inj hm
     refine q_rt ?_
     exact q_rm
    ·replace hm := bif_f b18 hm
     refine q_sk ?_
     refine q_sq ?_
     refine q_jn (ι := Bool) (fun p => edge_check_k1_S a4 p) (fun p => edge_check_k1 a4 p = some r) ?_ ?_
     ·rintro x20 hm
      show H _ (edge_check_k1_S a4 x20) _ _
      refine q_cn x20 (fun b21 => ?_) (fun b21 => ?_)
      ·replace hm := bif_t b21 hm
       refine q_sq ?_
       refine q_vn [] 3 ⟨[(12, vi 19)], []⟩ ?_
       obtain rfl := Option.some.inj hm
       refine q_rt ?_
       exact q_rm
      ·replace hm := bif_f b21 hm
       refine q_sk ?_
       refine q_sq ?_
       refine q_sq ?_
       refine q_vn [] 3 ⟨[(68, va (e_Rect a4)), (69, vi 0)], []⟩ ?_
       obtain ⟨u30, h29, hm⟩ := bind_s hm
       refine R_loop1 (nd Tryd.f60 2036) 0 (by kernel_rfl) FUEL (fun o => edge_check_L2_T) (fun v st => RetQ Tryd.prog Tryd.f60 (edge_check_x v) (edge_check_o v) .ret st) u30 (q_hl (edge_check_L2_S a4 0) (edge_check_L2_ok E a4 FUEL 0 u30 h29)) ?_ ?_
       ·rintro v31 rfl st hr
        obtain rfl := Option.some.inj hm
        exact hr
       ·rintro o28 rfl
        replace hm : _ = some r := hm
        refine q_sq ?_
        refine q_vn [] 3 ⟨[(12, vi 0)], []⟩ ?_
        obtain rfl := Option.some.inj hm
        refine q_rt ?_
        exact q_rm
     ·rcases Bool.eq_false_or_eq_true (decide (a4.X.A ≥ a4.X.B)) with b19 | b19
      ·replace hm := bif_t b19 hm
       refine q_vu [qf 7 b19] 3 [16, 38] [(55, vb true)] [] [] ?_
       exact q_J (true) hm
      ·replace hm := bif_f b19 hm
       refine q_vu [qf 7 b19] 3 [16, 38] [(55, vb (decide (a4.Y.A ≥ a4.Y.B)))] [] [] ?_
       exact q_J (decide (a4.Y.A ≥ a4.Y.B)) hm

end Saw
end Go.SL

namespace Go.SL
namespace Saw
open Go.Proofs
set_option maxHeartbeats 4000000

def edge_Sizes_x (r : (List Int) × (List Int)) : V := .tup [.one (.own 0 0 1 r.1.length), .one (.own 1 0 1 r.2.length)]

def edge_Sizes_o (r : (List Int) × (List Int)) : List (Nat × (Nat × O)) := [(0, ro 0 3 1 r.1.length (rf e_i64 r.1)), (1, ro 0 3 1 r.2.length (rf e_i64 r.2))]

theorem edge_Sizes_f (r : (List Int) × (List Int)) : Frozen (edge_Sizes_o r) := by
 intro i k o h
 unfold edge_Sizes_o at h
 rw [look_cons] at h
 split at h
 ·cases h; exact fun _ _ => rfl
 ·rw [look_cons] at h
  split at h
  ·cases h; exact fun _ _ => rfl
  ·cases h

def edge_Sizes_k3_S (a1 : List Product) (a2 : Int) (x8 : Int) (l19 : List Int) (l19n : Nat) (l20 : List Int) (l20n : Nat) : St :=
 ⟨[(1, vi a2), (6, vo 0 0 1 l19n), (7, vo 1 0 1 l20n), (15, vc (tl e_Product default a1)), (16, vi ((a1.length : Nat) : Int)), (17, vi x8)], [(0, ro 0 3 1 l19n (rf e_i64 l19)), (1, ro 0 3 1 l20n (rf e_i64 l20))]⟩

def edge_Sizes_k2_S (a1 : List Product) (a2 : Int) (l7 : List Int) (x8 : Int) (l17 : List Int) (l17n : Nat) : St :=
 ⟨[(1, vi a2), (6, vo 0 0 1 l17n), (7, vo 1 0 1 l7.length), (8, vi x8), (15, vc (tl e_Product default a1)), (16, vi ((a1.length : Nat) : Int)), (17, vi x8)], [(0, ro 0 3 1 l17n (rf e_i64 l17)), (1, ro 0 3 1 l7.length (rf e_i64 l7))]⟩

def edge_Sizes_L1_S (a1 : List Product) (a2 : Int) (l6 : List Int) (l6n : Nat) (l7 : List Int) (l7n : Nat) (x8 : Int) : St :=
 ⟨[(1, vi a2), (6, vo 0 0 1 l6n), (7, vo 1 0 1 l7n), (15, vc (tl e_Product default a1)), (16, vi ((a1.length : Nat) : Int)), (17, vi x8)], [(0, ro 0 3 1 l6n (rf e_i64 l6)), (1, ro 0 3 1 l7n (rf e_i64 l7))]⟩

def edge_Sizes_L1_T (l21 : List Int) (l22 : List Int) : St :=
 ⟨[(6, vo 0 0 1 l21.length), (7, vo 1 0 1 l22.length)], [(0, ro 0 3 1 l21.length (rf e_i64 l21)), (1, ro 0 3 1 l22.length (rf e_i64 l22))]⟩

set_option maxRecDepth 100000 in
theorem edge_Sizes_L1_ok (E : Env 0) (a1 : List Product) (a2 : Int) : ∀ (n : Nat) (l6 : List Int) (l6n : Nat) (l7 : List Int) (l7n : Nat) (x8 : Int) (res : (List Int) × (List Int)), l6.length = l6n → l7.length = l7n → edge_Sizes_L1 a1 a2 n l6 l7 x8 = some res → HL (kx E 49 0) (nd Tryd.f10 244) (loopQ0 0 (fun o => edge_Sizes_L1_T o.1 o.2) res) n (edge_Sizes_L1_S a1 a2 l6 l6n l7 l7n x8) := by
 intro n
 induction n with
 | zero =>
  intro l6 l6n l7 l7n x8 res hl0 hl1 hm
  cases hm
 | succ n ih =>
  intro l6 l6n l7 l7n x8 res hl0 hl1 hm
  subst hl0
  subst hl1
  refine HL_succ ?_
  refine q_sq ?_
  refine q_vu [] 2 [] [(18, vb (decide (x8 < ((a1.length : Nat) : Int))))] [] [] ?_
  refine q_sq ?_
  refine q_cn (decide (x8 < ((a1.length : Nat) : Int))) (fun b9 => ?_) (fun b9 => ?_)
  ·replace hm := bif_t b9 hm
   refine q_sk ?_
   refine q_jn (ι := (List Int) × Nat × (List Int) × Nat) (fun p => edge_Sizes_k3_S a1 a2 x8 p.1 p.2.1 p.2.2.1 p.2.2.2) (fun p => p.1.length = p.2.1 ∧ p.2.2.1.length = p.2.2.2 ∧ edge_Sizes_k3 x8 (edge_Sizes_L1 a1 a2 n) p.1 p.2.2.1 = some res) ?_ ?_
   ·rintro ⟨l19, l19n, l20, l20n⟩ ⟨el19, el20, hm⟩
    replace el19 : l19.length = l19n := el19
    subst el19
    replace el20 : l20.length = l20n := el20
    subst el20
    show H _ (edge_Sizes_k3_S a1 a2 x8 l19 l19.length l20 l20.length) _ _
    refine q_vu [] 5 [17] [(17, vi (w64 (x8 + 1)))] [] [] ?_
    exact q_hl (edge_Sizes_L1_S a1 a2 l19 l19.length l20 l20.length (w64 (x8 + 1))) (ih l19 l19.length l20 l20.length (w64 (x8 + 1)) _ rfl rfl hm)
   ·refine q_bk 1 ?_
    refine q_sq ?_
    obtain ⟨g10, hm⟩ := bif_n hm
    refine q_vu [qd 1 (Dir.none) (inb_of g10)] 2 [18] [(8, vi x8), (9, vp 2 0)] [] [(2, bx 43 [cs ((a1.getD x8.toNat default).Name), ci ((a1.getD x8.toNat default).Thick), ci ((a1.getD x8.toNat default).Width), ci ((a1.getD x8.toNat default).Allow), ci ((a1.getD x8.toNat default).Wane), tl e_i64 default ((a1.getD x8.toNat default).Lengths), tl e_i64 default ((a1.getD x8.toNat default).Prices)])] ?_
    refine q_sq ?_
    obtain ⟨v11, h12, hm⟩ := bind_s hm
    refine q_vu [qc 1 [23] 3 (product_Green_ok (a1.getD x8.toNat default) v11 h12)] 3 [9] [(10, vi v11.1), (11, vi v11.2)] [2] [] ?_
    refine q_jn (ι := (List Int) × Nat) (fun p => edge_Sizes_k2_S a1 a2 l7 x8 p.1 p.2) (fun p => p.1.length = p.2 ∧ edge_Sizes_k2 l7 x8 (edge_Sizes_L1 a1 a2 n) p.1 = some res) ?_ ?_
    ·rintro ⟨l17, l17n⟩ ⟨el17, hm⟩
     replace el17 : l17.length = l17n := el17
     subst el17
     show H _ (edge_Sizes_k2_S a1 a2 l7 x8 l17 l17.length) _ _
     obtain ⟨g18, hm⟩ := bif_n hm
     refine q_vu [qd 2 (drw 4 0 (rf e_i64 ([x8] : List Int))) (litP e_i64 default 1 (fun _ => rfl) ([x8] : List Int) 1 rfl), qd 3 (drw 1 1 (rf e_i64 (l7 ++ ([x8] : List Int)))) (apP e_i64 default l7 ([x8] : List Int) l7.length 1 1 8 (1 ≤ 1) (Nat.le_refl _) rfl rfl (fun _ => rfl) (room_of g18))] 4 [7, 8] [(7, vo 1 1 1 (l7.length + 1))] [1] [(1, ro 1 3 1 (l7.length + 1) (rf e_i64 (l7 ++ ([x8] : List Int))))] ?_
     exact q_J (l17, l17.length, (l7 ++ ([x8] : List Int)), (l7.length + 1)) ⟨rfl, (len_app rfl rfl), hm⟩
    ·refine q_sq ?_
     refine q_vu [] 3 [] [(27, vi a2)] [] [] ?_
     refine q_bk 2 ?_
     refine q_sq ?_
     refine q_vu [] 3 [] [(28, vb (a2 == v11.1))] [] [] ?_
     refine q_cn (a2 == v11.1) (fun b13 => ?_) (fun b13 => ?_)
     ·replace hm := bif_t b13 hm
      obtain ⟨g14, hm⟩ := bif_n hm
      refine q_vu [qd 2 (drw 3 0 (rf e_i64 ([v11.2] : List Int))) (litP e_i64 default 1 (fun _ => rfl) ([v11.2] : List Int) 1 rfl), qd 3 (drw 0 1 (rf e_i64 (l6 ++ ([v11.2] : List Int)))) (apP e_i64 default l6 ([v11.2] : List Int) l6.length 1 1 8 (1 ≤ 1) (Nat.le_refl _) rfl rfl (fun _ => rfl) (room_of g14))] 3 [6, 10, 11, 27, 28] [(6, vo 0 1 1 (l6.length + 1))] [0] [(0, ro 1 3 1 (l6.length + 1) (rf e_i64 (l6 ++ ([v11.2] : List Int))))] ?_
      exact q_J ((l6 ++ ([v11.2] : List Int)), (l6.length + 1)) ⟨(len_app rfl rfl), hm⟩
     ·replace hm := bif_f b13 hm
      refine q_sq ?_
      refine q_vu [] 3 [11, 27, 28] [(35, vb (a2 == v11.2))] [] [] ?_
      refine q_cn (a2 == v11.2) (fun b15 => ?_) (fun b15 => ?_)
      ·replace hm := bif_t b15 hm
       obtain ⟨g16, hm⟩ := bif_n hm
       refine q_vu [qd 2 (drw 3 0 (rf e_i64 ([v11.1] : List Int))) (litP e_i64 default 1 (fun _ => rfl) ([v11.1] : List Int) 1 rfl), qd 3 (drw 0 1 (rf e_i64 (l6 ++ ([v11.1] : List Int)))) (apP e_i64 default l6 ([v11.1] : List Int) l6.length 1 1 8 (1 ≤ 1) (Nat.le_refl _) rfl rfl (fun _ => rfl) (room_of g16))] 3 [6, 10, 35] [(6, vo 0 1 1 (l6.length + 1))] [0] [(0, ro 1 3 1 (l6.length + 1) (rf e_i64 (l6 ++ ([v11.1] : List Int))))] ?_
       exact q_J ((l6 ++ ([v11.1] : List Int)), (l6.length + 1)) ⟨(len_app rfl rfl), hm⟩
      ·replace hm := bif_f b15 hm
       refine q_ex 1 ?_
       exact q_J (l6, l6.length, l7, l7.length) ⟨rfl, rfl, hm⟩
  ·replace hm := bif_f b9 hm
   refine q_ex 0 ?_
   obtain rfl := Option.some.inj hm
   exact L0_mk (by kernel_rfl) (by kernel_rfl)

set_option maxRecDepth 100000 in
theorem edge_Sizes_ok (a1 : List Product) (a2 : Int) (r : (List Int) × (List Int)) (hm : edge_Sizes a1 a2 = some r) : CtX Tryd.prog globs 10 0 0 [.one (tl e_Product default a1), .one (ci a2)] [] (edge_Sizes_x r) (edge_Sizes_o r) := by
 unfold edge_Sizes at hm
 refine q_E Tryd.f10 49 fun E => ?_
 refine q_sq ?_
 refine q_vn [] 0 ⟨[(0, vc (tl e_Product default a1)), (1, vi a2)], []⟩ ?_
 refine q_sq ?_
 refine q_sq ?_
 obtain ⟨v3, h4, hm⟩ := bind_s hm
 refine q_vu [qc 1 [12] 0 (product_Check_ok a1 v3 h4)] 0 [] [(14, vb (v3 != 0))] [] [] ?_
 refine q_cn (v3 != 0) (fun b5 => ?_) (fun b5 => ?_)
 ·replace hm := bif_t b5 hm
  refine q_sq ?_
  refine q_vn [] 0 ⟨[(4, vc (.emp)), (5, vc (.emp))], []⟩ ?_
  refine q_fn [.own 4 0 3 1 (rf e_i64 ([] : List Int))] ⟨[(4, vo 0 0 1 0), (5, vc (.emp))], [(0, ro 0 3 1 0 (rf e_i64 ([] : List Int)))]⟩ o0 ?_
  refine q_fn [.own 5 1 3 1 (rf e_i64 ([] : List Int))] ⟨[(4, vo 0 0 1 0), (5, vo 1 0 1 0)], [(0, ro 0 3 1 0 (rf e_i64 ([] : List Int))), (1, ro 0 3 1 0 (rf e_i64 ([] : List Int)))]⟩ o0 ?_
  refine q_fn [.len 0 (([] : List Int).length)] ⟨[(4, vo 0 0 1 (([] : List Int).length)), (5, vo 1 0 1 0)], [(0, ro 0 3 1 (([] : List Int).length) (rf e_i64 ([] : List Int))), (1, ro 0 3 1 0 (rf e_i64 ([] : List Int)))]⟩ (o1 (And.intro (show 0 = ([] : List Int).length from rfl) (show 0 = ([] : List Int).length from rfl))) ?_
  refine q_fn [.len 1 (([] : List Int).length)] ⟨[(4, vo 0 0 1 (([] : List Int).length)), (5, vo 1 0 1 (([] : List Int).length))], [(0, ro 0 3 1 (([] : List Int).length) (rf e_i64 ([] : List Int))), (1, ro 0 3 1 (([] : List Int).length) (rf e_i64 ([] : List Int)))]⟩ (o1 (And.intro (show 0 = ([] : List Int).length from rfl) (show 0 = ([] : List Int).length from rfl))) ?_
  obtain rfl := Option.some.inj hm
  refine q_rt ?_
  exact q_rm
 ·replace hm := bif_f b5 hm
  refine q_sk ?_
  refine q_sq ?_
  refine q_vu [] 0 [14] [(6, vc (.emp)), (7, vc (.emp))] [] [] ?_
  refine q_sq ?_
  refine q_sq ?_
  refine q_vu [] 0 [0] [(15, vc (tl e_Product default a1)), (16, vi ((a1.length : Nat) : Int)), (17, vi 0)] [] [] ?_
  refine q_fn [.own 6 0 3 1 (rf e_i64 ([] : List Int))] ⟨[(1, vi a2), (6, vo 0 0 1 0), (7, vc (.emp)), (15, vc (tl e_Product default a1)), (16, vi ((a1.length : Nat) : Int)), (17, vi 0)], [(0, ro 0 3 1 0 (rf e_i64 ([] : List Int)))]⟩ o0 ?_
  refine q_fn [.own 7 1 3 1 (rf e_i64 ([] : List Int))] ⟨[(1, vi a2), (6, vo 0 0 1 0), (7, vo 1 0 1 0), (15, vc (tl e_Product default a1)), (16, vi ((a1.length : Nat) : Int)), (17, vi 0)], [(0, ro 0 3 1 0 (rf e_i64 ([] : List Int))), (1, ro 0 3 1 0 (rf e_i64 ([] : List Int)))]⟩ o0 ?_
  obtain ⟨o23, h24, hm⟩ := bind_s hm
  refine R_loop0 (nd Tryd.f10 244) 0 (by kernel_rfl) FUEL (fun o => edge_Sizes_L1_T o.1 o.2) o23 (q_hl (edge_Sizes_L1_S a1 a2 ([] : List Int) 0 ([] : List Int) 0 0) (edge_Sizes_L1_ok E a1 a2 FUEL ([] : List Int) 0 ([] : List Int) 0 0 o23 rfl rfl h24)) ?_
  refine q_sq ?_
  refine q_vu [] 2 [6, 7] [(4, vo 0 0 1 o23.1.length), (5, vo 1 0 1 o23.2.length)] [] [] ?_
  obtain rfl := Option.some.inj hm
  refine q_rt ?_
  exact q_rm

end Saw
end Go.SL

namespace Go.SL
namespace Saw
open Go.Proofs
set_option maxHeartbeats 4000000

def edge_Line_x (r : Line × Int) : V := .tup [.agg [ci r.1.Len, ci r.1.Kerf, ci r.1.Pitch, .own 0 0 1 r.1.Sizes.length, .own 1 0 1 r.1.Gain.length, .own 2 0 1 r.1.Chip.length, .own 3 0 1 r.1.Dust.length], .one (ci r.2)]

def edge_Line_o (r : Line × Int) : List (Nat × (Nat × O)) := [(0, ro 0 3 1 r.1.Sizes.length (rf e_i64 r.1.Sizes)), (1, ro 0 25 1 r.1.Gain.length (rf (e_lst e_i64) r.1.Gain)), (2, ro 0 3 1 r.1.Chip.length (rf e_i64 r.1.Chip)), (3, ro 0 3 1 r.1.Dust.length (rf e_i64 r.1.Dust))]

def edge_Line_k3_S (a1 : List Slice) (a2 : List Defect) (a3 : List Product) (a4 : Rect) (a5 : Saw) (a6 : Rates) (v10 : (List Int) × (List Int)) (x12 : Int) (l13 : List (List Int)) (l16 : List Int) (x17 : Int) (x27 : Int) : St :=
 ⟨[(0, vc (tl e_Slice default a1)), (1, vc (tl e_Defect default a2)), (2, vc (tl e_Product default a3)), (9, vp 0 0), (10, vp 1 0), (11, vp 2 0), (12, vp 3 0), (15, vi (w64 (a4.X.B - a4.X.A))), (17, vo 5 0 1 v10.2.length), (18, vp 6 0), (19, vi x12), (20, vi (v10.1.getD x12.toNat default)), (21, vo 8 0 1 l16.length), (22, vi x17), (23, vi x27), (62, vo 4 0 1 v10.1.length), (63, vi ((v10.1.length : Nat) : Int)), (64, vi x12)], [(0, bx 35 (e_Rect a4)), (1, bx 37 (e_Saw a5)), (2, bx 39 (e_Rates a6)), (3, bx 64 [ci 0, ci 0, ci 0, .emp, .emp, .emp, .emp]), (4, ro 0 3 1 v10.1.length (rf e_i64 v10.1)), (5, ro 0 3 1 v10.2.length (rf e_i64 v10.2)), (6, bx 64 [ci (w64 (a4.X.B - a4.X.A)), ci a5.Kerf, ci 1, .own 4 0 1 v10.1.length, .own 7 0 1 l13.length, .emp, .emp]), (7, ro 0 25 1 l13.length (rf (e_lst e_i64) l13)), (8, ro 0 3 1 l16.length (rf e_i64 l16))]⟩

def edge_Line_L2_S (a1 : List Slice) (a2 : List Defect) (a3 : List Product) (a4 : Rect) (a5 : Saw) (a6 : Rates) (v10 : (List Int) × (List Int)) (x12 : Int) (l13 : List (List Int)) (l16 : List Int) (l16n : Nat) (x17 : Int) : St :=
 ⟨[(0, vc (tl e_Slice default a1)), (1, vc (tl e_Defect default a2)), (2, vc (tl e_Product default a3)), (9, vp 0 0), (10, vp 1 0), (11, vp 2 0), (12, vp 3 0), (15, vi (w64 (a4.X.B - a4.X.A))), (17, vo 5 0 1 v10.2.length), (18, vp 6 0), (19, vi x12), (20, vi (v10.1.getD x12.toNat default)), (21, vo 8 0 1 l16n), (22, vi x17), (62, vo 4 0 1 v10.1.length), (63, vi ((v10.1.length : Nat) : Int)), (64, vi x12)], [(0, bx 35 (e_Rect a4)), (1, bx 37 (e_Saw a5)), (2, bx 39 (e_Rates a6)), (3, bx 64 [ci 0, ci 0, ci 0, .emp, .emp, .emp, .emp]), (4, ro 0 3 1 v10.1.length (rf e_i64 v10.1)), (5, ro 0 3 1 v10.2.length (rf e_i64 v10.2)), (6, bx 64 [ci (w64 (a4.X.B - a4.X.A)), ci a5.Kerf, ci 1, .own 4 0 1 v10.1.length, .own 7 0 1 l13.length, .emp, .emp]), (7, ro 0 25 1 l13.length (rf (e_lst e_i64) l13)), (8, ro 0 3 1 l16n (rf e_i64 l16))]⟩

def edge_Line_L2_T (a1 : List Slice) (a2 : List Defect) (a3 : List Product) (a4 : Rect) (a5 : Saw) (a6 : Rates) (v10 : (List Int) × (List Int)) (x12 : Int) (l13 : List (List Int)) (l29 : List Int) : St :=
 ⟨[(0, vc (tl e_Slice default a1)), (1, vc (tl e_Defect default a2)), (2, vc (tl e_Product default a3)), (9, vp 0 0), (10, vp 1 0), (11, vp 2 0), (12, vp 3 0), (15, vi (w64 (a4.X.B - a4.X.A))), (17, vo 5 0 1 v10.2.length), (18, vp 6 0), (21, vo 8 0 1 l29.length), (62, vo 4 0 1 v10.1.length), (63, vi ((v10.1.length : Nat) : Int)), (64, vi x12)], [(0, bx 35 (e_Rect a4)), (1, bx 37 (e_Saw a5)), (2, bx 39 (e_Rates a6)), (3, bx 64 [ci 0, ci 0, ci 0, .emp, .emp, .emp, .emp]), (4, ro 0 3 1 v10.1.length (rf e_i64 v10.1)), (5, ro 0 3 1 v10.2.length (rf e_i64 v10.2)), (6, bx 64 [ci (w64 (a4.X.B - a4.X.A)), ci a5.Kerf, ci 1, .own 4 0 1 v10.1.length, .own 7 0 1 l13.length, .emp, .emp]), (7, ro 0 25 1 l13.length (rf (e_lst e_i64) l13)), (8, ro 0 3 1 l29.length (rf e_i64 l29))]⟩

def edge_Line_L1_S (a1 : List Slice) (a2 : List Defect) (a3 : List Product) (a4 : Rect) (a5 : Saw) (a6 : Rates) (v10 : (List Int) × (List Int)) (x12 : Int) (l13 : List (List Int)) (l13n : Nat) : St :=
 ⟨[(0, vc (tl e_Slice default a1)), (1, vc (tl e_Defect default a2)), (2, vc (tl e_Product default a3)), (9, vp 0 0), (10, vp 1 0), (11, vp 2 0), (12, vp 3 0), (15, vi (w64 (a4.X.B - a4.X.A))), (17, vo 5 0 1 v10.2.length), (18, vp 6 0), (62, vo 4 0 1 v10.1.length), (63, vi ((v10.1.length : Nat) : Int)), (64, vi x12)], [(0, bx 35 (e_Rect a4)), (1, bx 37 (e_Saw a5)), (2, bx 39 (e_Rates a6)), (3, bx 64 [ci 0, ci 0, ci 0, .emp, .emp, .emp, .emp]), (4, ro 0 3 1 v10.1.length (rf e_i64 v10.1)), (5, ro 0 3 1 v10.2.length (rf e_i64 v10.2)), (6, bx 64 [ci (w64 (a4.X.B - a4.X.A)), ci a5.Kerf, ci 1, .own 4 0 1 v10.1.length, .own 7 0 1 l13n, .emp, .emp]), (7, ro 0 25 1 l13n (rf (e_lst e_i64) l13))]⟩

def edge_Line_L1_T (a1 : List Slice) (a4 : Rect) (a5 : Saw) (a6 : Rates) (v10 : (List Int) × (List Int)) (l33 : List (List Int)) : St :=
 ⟨[(0, vc (tl e_Slice default a1)), (9, vp 0 0), (11, vp 2 0), (12, vp 3 0), (15, vi (w64 (a4.X.B - a4.X.A))), (18, vp 6 0)], [(0, bx 35 (e_Rect a4)), (2, bx 39 (e_Rates a6)), (3, bx 64 [ci 0, ci 0, ci 0, .emp, .emp, .emp, .emp]), (4, ro 0 3 1 v10.1.length (rf e_i64 v10.1)), (6, bx 64 [ci (w64 (a4.X.B - a4.X.A)), ci a5.Kerf, ci 1, .own 4 0 1 v10.1.length, .own 7 0 1 l33.length, .emp, .emp]), (7, ro 0 25 1 l33.length (rf (e_lst e_i64) l33))]⟩

def edge_Line_L4_S (a1 : List Slice) (a4 : Rect) (a5 : Saw) (a6 : Rates) (v10 : (List Int) × (List Int)) (o34 : (List (List Int))) (v36 : Int) (x38 : Int) (l39 : List Int) (l39n : Nat) (l40 : List Int) (l40n : Nat) : St :=
 ⟨[(0, vc (tl e_Slice default a1)), (9, vp 0 0), (11, vp 2 0), (12, vp 3 0), (18, vp 6 0), (24, vp 8 0), (113, vi (w64 (a4.X.B - a4.X.A))), (114, vi x38)], [(0, bx 35 (e_Rect a4)), (2, bx 39 (e_Rates a6)), (3, bx 64 [ci 0, ci 0, ci 0, .emp, .emp, .emp, .emp]), (4, ro 0 3 1 v10.1.length (rf e_i64 v10.1)), (6, bx 64 [ci (w64 (a4.X.B - a4.X.A)), ci a5.Kerf, ci 1, .own 4 0 1 v10.1.length, .own 7 0 1 o34.length, .own 9 0 1 l39n, .own 10 0 1 l40n]), (7, ro 0 25 1 o34.length (rf (e_lst e_i64) o34)), (8, bx 33 [ci 0, ci v36]), (9, ro 0 3 1 l39n (rf e_i64 l39)), (10, ro 0 3 1 l40n (rf e_i64 l40))]⟩

def edge_Line_L4_T (a4 : Rect) (a5 : Saw) (v10 : (List Int) × (List Int)) (o34 : (List (List Int))) (l48 : List Int) (l49 : List Int) : St :=
 ⟨[(12, vp 3 0), (18, vp 6 0)], [(3, bx 64 [ci 0, ci 0, ci 0, .emp, .emp, .emp, .emp]), (4, ro 0 3 1 v10.1.length (rf e_i64 v10.1)), (6, bx 64 [ci (w64 (a4.X.B - a4.X.A)), ci a5.Kerf, ci 1, .own 4 0 1 v10.1.length, .own 7 0 1 o34.length, .own 9 0 1 l48.length, .own 10 0 1 l49.length]), (7, ro 0 25 1 o34.length (rf (e_lst e_i64) o34)), (9, ro 0 3 1 l48.length (rf e_i64 l48)), (10, ro 0 3 1 l49.length (rf e_i64 l49))]⟩

set_option maxRecDepth 100000 in
theorem edge_Line_L2_ok (E : Env 0) (a1 : List Slice) (a2 : List Defect) (a3 : List Product) (a4 : Rect) (a5 : Saw) (a6 : Rates) (v10 : (List Int) × (List Int)) (x12 : Int) (l13 : List (List Int)) : ∀ (n : Nat) (l16 : List Int) (l16n : Nat) (x17 : Int) (res : (List Int)), l16.length = l16n → edge_Line_L2 a1 a2 a3 a4 a5 a6 v10 x12 n l16 x17 = some res → HL (kx E 145 0) (nd Tryd.f32 1037108) (loopQ0 2 (fun o => edge_Line_L2_T a1 a2 a3 a4 a5 a6 v10 x12 l13 o) res) n (edge_Line_L2_S a1 a2 a3 a4 a5 a6 v10 x12 l13 l16 l16n x17) := by
 intro n
 induction n with
 | zero =>
  intro l16 l16n x17 res hl0 hm
  cases hm
 | succ n ih =>
  intro l16 l16n x17 res hl0 hm
  subst hl0
  refine HL_succ ?_
  refine q_sq ?_
  refine q_sq ?_
  refine q_vu [] 9 [] [(73, vb (decide ((w64 (x17 + (v10.1.getD x12.toNat default))) ≤ (w64 (a4.X.B - a4.X.A)))))] [] [] ?_
  refine q_cn (decide ((w64 (x17 + (v10.1.getD x12.toNat default))) ≤ (w64 (a4.X.B - a4.X.A)))) (fun b18 => ?_) (fun b18 => ?_)
  ·replace hm := bif_t b18 hm
   refine q_sk ?_
   refine q_sq ?_
   refine q_bk 3 ?_
   refine q_sq ?_
   refine q_vu [] 9 [73] [(23, vi (-1))] [] [] ?_
   refine q_jn (ι := Int) (fun p => edge_Line_k3_S a1 a2 a3 a4 a5 a6 v10 x12 l13 l16 x17 p) (fun p => edge_Line_k3 l16 x17 (edge_Line_L2 a1 a2 a3 a4 a5 a6 v10 x12 n) p = some res) ?_ ?_
   ·rintro x27 hm
    show H _ (edge_Line_k3_S a1 a2 a3 a4 a5 a6 v10 x12 l13 l16 x17 x27) _ _
    obtain ⟨g28, hm⟩ := bif_n hm
    refine q_vu [qd 2 (drw 9 0 (rf e_i64 ([x27] : List Int))) (litP e_i64 default 1 (fun _ => rfl) ([x27] : List Int) 1 rfl), qd 3 (drw 8 1 (rf e_i64 (l16 ++ ([x27] : List Int)))) (apP e_i64 default l16 ([x27] : List Int) l16.length 1 1 8 (1 ≤ 1) (Nat.le_refl _) rfl rfl (fun _ => rfl) (room_of g28))] 9 [21, 23] [(21, vo 8 1 1 (l16.length + 1))] [8] [(8, ro 1 3 1 (l16.length + 1) (rf e_i64 (l16 ++ ([x27] : List Int))))] ?_
    refine q_vu [] 10 [22] [(22, vi (w64 (x17 + 1)))] [] [] ?_
    exact q_hl (edge_Line_L2_S a1 a2 a3 a4 a5 a6 v10 x12 l13 (l16 ++ ([x27] : List Int)) (l16.length + 1) (w64 (x17 + 1))) (ih (l16 ++ ([x27] : List Int)) (l16.length + 1) (w64 (x17 + 1)) _ (len_app rfl rfl) hm)
   ·refine q_sq ?_
    obtain ⟨g19, hm⟩ := bif_n hm
    refine q_vu [qd 3 (Dir.none) (nz_of g19)] 9 [] [(80, vb ((Int.tmod x17 a5.Pitch) == 0))] [] [] ?_
    refine q_cn ((Int.tmod x17 a5.Pitch) == 0) (fun b20 => ?_) (fun b20 => ?_)
    ·replace hm := bif_t b20 hm
     obtain ⟨g21, hm⟩ := bif_n hm
     obtain ⟨g22, hm⟩ := bif_n hm
     obtain ⟨v23, h24, hm⟩ := bind_s hm
     obtain ⟨v25, h26, hm⟩ := bind_s hm
     refine q_du [qd 5 (Dir.none) (inb_of g21), qd 6 (Dir.none) (toNat_lt (inb_of g21)), qd 7 (Dir.none) (inb_of g22), qc 14 [90, 91, 94] 9 (edge_part_ok a4 x17 (w64 (x17 + (v10.1.getD x12.toNat default))) v23 h24), qc 17 [81, 82, 89, 95, 96, 97] 9 (edge_gain_ok a1 a2 (a3.getD (v10.2.getD x12.toNat default).toNat default) v23 a5 a6 v25 h26)] [0, 0, 0, 0, 0, 24, 56, 124, 252, 0, 0, 0, 0, 6144, 15872, 0, 0, 131071, 262143] 9 [23, 80] [(23, vi v25)] [] [] ?_
     exact q_J (v25) hm
    ·replace hm := bif_f b20 hm
     refine q_sk ?_
     exact q_J ((-1)) hm
  ·replace hm := bif_f b18 hm
   refine q_ex 2 ?_
   obtain rfl := Option.some.inj hm
   exact L0_mk (by kernel_rfl) (by kernel_rfl)

set_option maxRecDepth 100000 in
theorem edge_Line_L1_ok (E : Env 0) (a1 : List Slice) (a2 : List Defect) (a3 : List Product) (a4 : Rect) (a5 : Saw) (a6 : Rates) (v10 : (List Int) × (List Int)) : ∀ (n : Nat) (x12 : Int) (l13 : List (List Int)) (l13n : Nat) (res : (List (List Int))), l13.length = l13n → edge_Line_L1 a1 a2 a3 a4 a5 a6 v10 n x12 l13 = some res → HL (kx E 145 0) (nd Tryd.f32 1012) (loopQ0 0 (fun o => edge_Line_L1_T a1 a4 a5 a6 v10 o) res) n (edge_Line_L1_S a1 a2 a3 a4 a5 a6 v10 x12 l13 l13n) := by
 intro n
 induction n with
 | zero =>
  intro x12 l13 l13n res hl0 hm
  cases hm
 | succ n ih =>
  intro x12 l13 l13n res hl0 hm
  subst hl0
  refine HL_succ ?_
  refine q_sq ?_
  refine q_vu [] 8 [] [(65, vb (decide (x12 < ((v10.1.length : Nat) : Int))))] [] [] ?_
  refine q_sq ?_
  refine q_cn (decide (x12 < ((v10.1.length : Nat) : Int))) (fun b14 => ?_) (fun b14 => ?_)
  ·replace hm := bif_t b14 hm
   refine q_sk ?_
   refine q_sq ?_
   refine q_bk 1 ?_
   refine q_sq ?_
   obtain ⟨g15, hm⟩ := bif_n hm
   refine q_vu [qd 1 (Dir.none) (inb_of g15), qd 2 (Dir.none) (toNat_lt (inb_of g15))] 8 [65] [(19, vi x12), (20, vi (v10.1.getD x12.toNat default))] [] [] ?_
   refine q_sq ?_
   refine q_vu [] 8 [] [(21, vc (.emp))] [] [] ?_
   refine q_sq ?_
   refine q_sq ?_
   refine q_vu [] 8 [] [(22, vi 0)] [] [] ?_
   refine q_fn [.own 21 8 3 1 (rf e_i64 ([] : List Int))] ⟨[(0, vc (tl e_Slice default a1)), (1, vc (tl e_Defect default a2)), (2, vc (tl e_Product default a3)), (9, vp 0 0), (10, vp 1 0), (11, vp 2 0), (12, vp 3 0), (15, vi (w64 (a4.X.B - a4.X.A))), (17, vo 5 0 1 v10.2.length), (18, vp 6 0), (19, vi x12), (20, vi (v10.1.getD x12.toNat default)), (21, vo 8 0 1 0), (22, vi 0), (62, vo 4 0 1 v10.1.length), (63, vi ((v10.1.length : Nat) : Int)), (64, vi x12)], [(0, bx 35 (e_Rect a4)), (1, bx 37 (e_Saw a5)), (2, bx 39 (e_Rates a6)), (3, bx 64 [ci 0, ci 0, ci 0, .emp, .emp, .emp, .emp]), (4, ro 0 3 1 v10.1.length (rf e_i64 v10.1)), (5, ro 0 3 1 v10.2.length (rf e_i64 v10.2)), (6, bx 64 [ci (w64 (a4.X.B - a4.X.A)), ci a5.Kerf, ci 1, .own 4 0 1 v10.1.length, .own 7 0 1 l13.length, .emp, .emp]), (7, ro 0 25 1 l13.length (rf (e_lst e_i64) l13)), (8, ro 0 3 1 0 (rf e_i64 ([] : List Int)))]⟩ o0 ?_
   obtain ⟨o30, h31, hm⟩ := bind_s hm
   refine R_loop0 (nd Tryd.f32 1037108) 2 (by kernel_rfl) FUEL (fun o => edge_Line_L2_T a1 a2 a3 a4 a5 a6 v10 x12 l13 o) o30 (q_hl (edge_Line_L2_S a1 a2 a3 a4 a5 a6 v10 x12 l13 ([] : List Int) 0 0) (edge_Line_L2_ok E a1 a2 a3 a4 a5 a6 v10 x12 l13 FUEL ([] : List Int) 0 0 o30 rfl h31)) ?_
   obtain ⟨g32, hm⟩ := bif_n hm
   refine q_vu [qd 3 (dpr [.frz 8] (drw 9 0 (rf (e_lst e_i64) ([o30] : List (List Int))))) (And.intro (Nat.le_refl o30.length) (Nat.le_refl o30.length)), qd 3 (Dir.none) (litP (e_lst e_i64) default 1 (fun _ => rfl) ([o30] : List (List Int)) 1 rfl), qd 4 (drw 7 1 (rf (e_lst e_i64) (l13 ++ ([o30] : List (List Int))))) (apP (e_lst e_i64) default l13 ([o30] : List (List Int)) l13.length 1 1 24 (1 ≤ 1) (Nat.le_refl _) rfl rfl (fun _ => rfl) (room_of g32))] 9 [21] [] [6, 7, 8] [(6, bx 64 [ci (w64 (a4.X.B - a4.X.A)), ci a5.Kerf, ci 1, .own 4 0 1 v10.1.length, .own 7 1 1 (l13.length + 1), .emp, .emp]), (7, ro 1 25 1 (l13.length + 1) (rf (e_lst e_i64) (l13 ++ ([o30] : List (List Int)))))] ?_
   refine q_vu [] 10 [64] [(64, vi (w64 (x12 + 1)))] [] [] ?_
   exact q_hl (edge_Line_L1_S a1 a2 a3 a4 a5 a6 v10 (w64 (x12 + 1)) (l13 ++ ([o30] : List (List Int))) (l13.length + 1)) (ih (w64 (x12 + 1)) (l13 ++ ([o30] : List (List Int))) (l13.length + 1) _ (len_app rfl rfl) hm)
  ·replace hm := bif_f b14 hm
   refine q_ex 0 ?_
   obtain rfl := Option.some.inj hm
   exact L0_mk (by kernel_rfl) (by kernel_rfl)

set_option maxRecDepth 100000 in
theorem edge_Line_L4_ok (E : Env 0) (a1 : List Slice) (a4 : Rect) (a5 : Saw) (a6 : Rates) (v10 : (List Int) × (List Int)) (o34 : (List (List Int))) (v36 : Int) : ∀ (n : Nat) (x38 : Int) (l39 : List Int) (l39n : Nat) (l40 : List Int) (l40n : Nat) (res : (List Int) × (List Int)), l39.length = l39n → l40.length = l40n → edge_Line_L4 a1 a4 a6 v36 n x38 l39 l40 = some res → HL (kx E 145 0) (nd Tryd.f32 4084) (loopQ0 4 (fun o => edge_Line_L4_T a4 a5 v10 o34 o.1 o.2) res) n (edge_Line_L4_S a1 a4 a5 a6 v10 o34 v36 x38 l39 l39n l40 l40n) := by
 intro n
 induction n with
 | zero =>
  intro x38 l39 l39n l40 l40n res hl0 hl1 hm
  cases hm
 | succ n ih =>
  intro x38 l39 l39n l40 l40n res hl0 hl1 hm
  subst hl0
  subst hl1
  refine HL_succ ?_
  refine q_sq ?_
  refine q_vu [] 11 [] [(115, vb (decide (x38 < (w64 (a4.X.B - a4.X.A)))))] [] [] ?_
  refine q_sq ?_
  refine q_cn (decide (x38 < (w64 (a4.X.B - a4.X.A)))) (fun b41 => ?_) (fun b41 => ?_)
  ·replace hm := bif_t b41 hm
   refine q_sk ?_
   refine q_sq ?_
   refine q_bk 5 ?_
   refine q_sq ?_
   refine q_vu [] 11 [115] [(25, vi x38)] [] [] ?_
   refine q_sq ?_
   obtain ⟨v42, h43, hm⟩ := bind_s hm
   obtain ⟨v44, h45, hm⟩ := bind_s hm
   refine q_du [qc 5 [118, 119, 121] 11 (edge_part_ok a4 x38 (w64 (x38 + 1)) v42 h43), qc 7 [117, 122, 123] 11 (edge_volume_ok a1 v42 (Span.mk 0 v36) v44 h45)] [0, 0, 0, 0, 8, 30, 0, 127, 255] 11 [25] [(26, vi v44)] [] [] ?_
   refine q_sq ?_
   obtain ⟨g46, hm⟩ := bif_n hm
   refine q_vu [qd 6 (drw 11 0 (rf e_i64 ([w64 (a6.Chip * v44)] : List Int))) (litP e_i64 default 1 (fun _ => rfl) ([w64 (a6.Chip * v44)] : List Int) 1 rfl), qd 7 (drw 9 1 (rf e_i64 (l39 ++ ([w64 (a6.Chip * v44)] : List Int)))) (apP e_i64 default l39 ([w64 (a6.Chip * v44)] : List Int) l39.length 1 1 8 (1 ≤ 1) (Nat.le_refl _) rfl rfl (fun _ => rfl) (room_of g46))] 11 [] [] [6, 9] [(6, bx 64 [ci (w64 (a4.X.B - a4.X.A)), ci a5.Kerf, ci 1, .own 4 0 1 v10.1.length, .own 7 0 1 o34.length, .own 9 1 1 (l39.length + 1), .own 10 0 1 l40.length]), (9, ro 1 3 1 (l39.length + 1) (rf e_i64 (l39 ++ ([w64 (a6.Chip * v44)] : List Int))))] ?_
   obtain ⟨g47, hm⟩ := bif_n hm
   refine q_vu [qd 6 (drw 12 0 (rf e_i64 ([w64 (a6.Dust * v44)] : List Int))) (litP e_i64 default 1 (fun _ => rfl) ([w64 (a6.Dust * v44)] : List Int) 1 rfl), qd 7 (drw 10 1 (rf e_i64 (l40 ++ ([w64 (a6.Dust * v44)] : List Int)))) (apP e_i64 default l40 ([w64 (a6.Dust * v44)] : List Int) l40.length 1 1 8 (1 ≤ 1) (Nat.le_refl _) rfl rfl (fun _ => rfl) (room_of g47))] 12 [26] [] [6, 10] [(6, bx 64 [ci (w64 (a4.X.B - a4.X.A)), ci a5.Kerf, ci 1, .own 4 0 1 v10.1.length, .own 7 0 1 o34.length, .own 9 1 1 (l39.length + 1), .own 10 1 1 (l40.length + 1)]), (10, ro 1 3 1 (l40.length + 1) (rf e_i64 (l40 ++ ([w64 (a6.Dust * v44)] : List Int))))] ?_
   refine q_vu [] 13 [114] [(114, vi (w64 (x38 + 1)))] [] [] ?_
   exact q_hl (edge_Line_L4_S a1 a4 a5 a6 v10 o34 v36 (w64 (x38 + 1)) (l39 ++ ([w64 (a6.Chip * v44)] : List Int)) (l39.length + 1) (l40 ++ ([w64 (a6.Dust * v44)] : List Int)) (l40.length + 1)) (ih (w64 (x38 + 1)) (l39 ++ ([w64 (a6.Chip * v44)] : List Int)) (l39.length + 1) (l40 ++ ([w64 (a6.Dust * v44)] : List Int)) (l40.length + 1) _ (len_app rfl rfl) (len_app rfl rfl) hm)
  ·replace hm := bif_f b41 hm
   refine q_ex 4 ?_
   obtain rfl := Option.some.inj hm
   exact L0_mk (by kernel_rfl) (by kernel_rfl)

set_option maxRecDepth 100000 in
theorem edge_Line_ok (a1 : List Slice) (a2 : List Defect) (a3 : List Product) (a4 : Rect) (a5 : Saw) (a6 : Rates) (r : Line × Int) (hm : edge_Line a1 a2 a3 a4 a5 a6 = some r) : CtX Tryd.prog globs 32 0 0 [.one (tl e_Slice default a1), .one (tl e_Defect default a2), .one (tl e_Product default a3), .agg (e_Rect a4), .agg (e_Saw a5), .agg (e_Rates a6)] [] (edge_Line_x r) (edge_Line_o r) := by
 unfold edge_Line at hm
 refine q_E Tryd.f32 145 fun E => ?_
 refine q_sq ?_
 refine q_vn [] 0 ⟨[(0, vc (tl e_Slice default a1)), (1, vc (tl e_Defect default a2)), (2, vc (tl e_Product default a3)), (9, vp 0 0), (10, vp 1 0), (11, vp 2 0), (12, vp 3 0)], [(0, bx 35 (e_Rect a4)), (1, bx 37 (e_Saw a5)), (2, bx 39 (e_Rates a6)), (3, bx 64 [ci 0, ci 0, ci 0, .emp, .emp, .emp, .emp])]⟩ ?_
 refine q_sq ?_
 refine q_sq ?_
 obtain ⟨v7, h8, hm⟩ := bind_s hm
 refine q_vu [qc 6 [27, 28, 29, 30, 31, 32] 4 (edge_check_ok a1 a2 a3 a4 a5 a6 v7 h8)] 4 [] [(14, vi v7)] [] [] ?_
 refine q_sq ?_
 refine q_vu [] 4 [] [(35, vb (v7 != 0))] [] [] ?_
 refine q_cn (v7 != 0) (fun b9 => ?_) (fun b9 => ?_)
 ·replace hm := bif_t b9 hm
  refine q_sq ?_
  refine q_vu [] 4 [0, 1, 2, 9, 10, 11, 14, 35] [(13, vi v7)] [0, 1, 2] [] ?_
  refine q_fn [.ownB 3 3 4 3 1 (rf e_i64 ([] : List Int))] ⟨[(12, vp 3 0), (13, vi v7)], [(3, bx 64 [ci 0, ci 0, ci 0, .own 4 0 1 0, .emp, .emp, .emp]), (4, ro 0 3 1 0 (rf e_i64 ([] : List Int)))]⟩ o0 ?_
  refine q_fn [.ownB 3 4 5 25 1 (rf (e_lst e_i64) ([] : List (List Int)))] ⟨[(12, vp 3 0), (13, vi v7)], [(3, bx 64 [ci 0, ci 0, ci 0, .own 4 0 1 0, .own 5 0 1 0, .emp, .emp]), (4, ro 0 3 1 0 (rf e_i64 ([] : List Int))), (5, ro 0 25 1 0 (rf (e_lst e_i64) ([] : List (List Int))))]⟩ o0 ?_
  refine q_fn [.ownB 3 5 6 3 1 (rf e_i64 ([] : List Int))] ⟨[(12, vp 3 0), (13, vi v7)], [(3, bx 64 [ci 0, ci 0, ci 0, .own 4 0 1 0, .own 5 0 1 0, .own 6 0 1 0, .emp]), (4, ro 0 3 1 0 (rf e_i64 ([] : List Int))), (5, ro 0 25 1 0 (rf (e_lst e_i64) ([] : List (List Int)))), (6, ro 0 3 1 0 (rf e_i64 ([] : List Int)))]⟩ o0 ?_
  refine q_fn [.ownB 3 6 7 3 1 (rf e_i64 ([] : List Int))] ⟨[(12, vp 3 0), (13, vi v7)], [(3, bx 64 [ci 0, ci 0, ci 0, .own 4 0 1 0, .own 5 0 1 0, .own 6 0 1 0, .own 7 0 1 0]), (4, ro 0 3 1 0 (rf e_i64 ([] : List Int))), (5, ro 0 25 1 0 (rf (e_lst e_i64) ([] : List (List Int)))), (6, ro 0 3 1 0 (rf e_i64 ([] : List Int))), (7, ro 0 3 1 0 (rf e_i64 ([] : List Int)))]⟩ o0 ?_
  refine q_fn [.len 4 (([] : List Int).length)] ⟨[(12, vp 3 0), (13, vi v7)], [(3, bx 64 [ci 0, ci 0, ci 0, .own 4 0 1 (([] : List Int).length), .own 5 0 1 0, .own 6 0 1 0, .own 7 0 1 0]), (4, ro 0 3 1 (([] : List Int).length) (rf e_i64 ([] : List Int))), (5, ro 0 25 1 0 (rf (e_lst e_i64) ([] : List (List Int)))), (6, ro 0 3 1 0 (rf e_i64 ([] : List Int))), (7, ro 0 3 1 0 (rf e_i64 ([] : List Int)))]⟩ (o1 (And.intro (show 0 = ([] : List Int).length from rfl) (show 0 = ([] : List Int).length from rfl))) ?_
  refine q_fn [.len 5 (([] : List (List Int)).length)] ⟨[(12, vp 3 0), (13, vi v7)], [(3, bx 64 [ci 0, ci 0, ci 0, .own 4 0 1 (([] : List Int).length), .own 5 0 1 (([] : List (List Int)).length), .own 6 0 1 0, .own 7 0 1 0]), (4, ro 0 3 1 (([] : List Int).length) (rf e_i64 ([] : List Int))), (5, ro 0 25 1 (([] : List (List Int)).length) (rf (e_lst e_i64) ([] : List (List Int)))), (6, ro 0 3 1 0 (rf e_i64 ([] : List Int))), (7, ro 0 3 1 0 (rf e_i64 ([] : List Int)))]⟩ (o1 (And.intro (show 0 = ([] : List (List Int)).length from rfl) (show 0 = ([] : List (List Int)).length from rfl))) ?_
  refine q_fn [.len 6 (([] : List Int).length)] ⟨[(12, vp 3 0), (13, vi v7)], [(3, bx 64 [ci 0, ci 0, ci 0, .own 4 0 1 (([] : List Int).length), .own 5 0 1 (([] : List (List Int)).length), .own 6 0 1 (([] : List Int).length), .own 7 0 1 0]), (4, ro 0 3 1 (([] : List Int).length) (rf e_i64 ([] : List Int))), (5, ro 0 25 1 (([] : List (List Int)).length) (rf (e_lst e_i64) ([] : List (List Int)))), (6, ro 0 3 1 (([] : List Int).length) (rf e_i64 ([] : List Int))), (7, ro 0 3 1 0 (rf e_i64 ([] : List Int)))]⟩ (o1 (And.intro (show 0 = ([] : List Int).length from rfl) (show 0 = ([] : List Int).length from rfl))) ?_
  refine q_fn [.len 7 (([] : List Int).length)] ⟨[(12, vp 3 0), (13, vi v7)], [(3, bx 64 [ci 0, ci 0, ci 0, .own 4 0 1 (([] : List Int).length), .own 5 0 1 (([] : List (List Int)).length), .own 6 0 1 (([] : List Int).length), .own 7 0 1 (([] : List Int).length)]), (4, ro 0 3 1 (([] : List Int).length) (rf e_i64 ([] : List Int))), (5, ro 0 25 1 (([] : List (List Int)).length) (rf (e_lst e_i64) ([] : List (List Int)))), (6, ro 0 3 1 (([] : List Int).length) (rf e_i64 ([] : List Int))), (7, ro 0 3 1 (([] : List Int).length) (rf e_i64 ([] : List Int)))]⟩ (o1 (And.intro (show 0 = ([] : List Int).length from rfl) (show 0 = ([] : List Int).length from rfl))) ?_
  obtain rfl := Option.some.inj hm
  refine H_swap 4 0 (by kernel_rfl) ?_
  refine H_swap 5 1 (by kernel_rfl) ?_
  refine H_swap 6 2 (by kernel_rfl) ?_
  refine H_swap 7 3 (by kernel_rfl) ?_
  refine q_rt ?_
  exact q_rm
 ·replace hm := bif_f b9 hm
  refine q_sk ?_
  refine q_sq ?_
  refine q_vu [] 4 [14, 35] [(15, vi (w64 (a4.X.B - a4.X.A)))] [] [] ?_
  refine q_sq ?_
  obtain ⟨v10, h11, hm⟩ := bind_s hm
  refine q_vu [qc 8 [46, 53] 4 (edge_Sizes_ok a3 (w64 (a4.Y.B - a4.Y.A)) v10 h11)] 4 [] [(16, vo 4 0 1 v10.1.length), (17, vo 5 0 1 v10.2.length)] [] [(4, ro 0 3 1 v10.1.length (rf e_i64 v10.1)), (5, ro 0 3 1 v10.2.length (rf e_i64 v10.2))] ?_
  refine q_sq ?_
  refine q_vu [] 6 [] [(18, vp 6 0)] [] [(6, bx 64 [ci (w64 (a4.X.B - a4.X.A)), ci a5.Kerf, ci 1, .own 4 0 1 v10.1.length, .emp, .emp, .emp])] ?_
  refine q_sq ?_
  refine q_sq ?_
  refine q_vu [] 7 [16] [(62, vo 4 0 1 v10.1.length), (63, vi ((v10.1.length : Nat) : Int)), (64, vi 0)] [] [] ?_
  refine q_fn [.ownB 6 4 7 25 1 (rf (e_lst e_i64) ([] : List (List Int)))] ⟨[(0, vc (tl e_Slice default a1)), (1, vc (tl e_Defect default a2)), (2, vc (tl e_Product default a3)), (9, vp 0 0), (10, vp 1 0), (11, vp 2 0), (12, vp 3 0), (15, vi (w64 (a4.X.B - a4.X.A))), (17, vo 5 0 1 v10.2.length), (18, vp 6 0), (62, vo 4 0 1 v10.1.length), (63, vi ((v10.1.length : Nat) : Int)), (64, vi 0)], [(0, bx 35 (e_Rect a4)), (1, bx 37 (e_Saw a5)), (2, bx 39 (e_Rates a6)), (3, bx 64 [ci 0, ci 0, ci 0, .emp, .emp, .emp, .emp]), (4, ro 0 3 1 v10.1.length (rf e_i64 v10.1)), (5, ro 0 3 1 v10.2.length (rf e_i64 v10.2)), (6, bx 64 [ci (w64 (a4.X.B - a4.X.A)), ci a5.Kerf, ci 1, .own 4 0 1 v10.1.length, .own 7 0 1 0, .emp, .emp]), (7, ro 0 25 1 0 (rf (e_lst e_i64) ([] : List (List Int))))]⟩ o0 ?_
  obtain ⟨o34, h35, hm⟩ := bind_s hm
  refine R_loop0 (nd Tryd.f32 1012) 0 (by kernel_rfl) FUEL (fun o => edge_Line_L1_T a1 a4 a5 a6 v10 o) o34 (q_hl (edge_Line_L1_S a1 a2 a3 a4 a5 a6 v10 0 ([] : List (List Int)) 0) (edge_Line_L1_ok E a1 a2 a3 a4 a5 a6 v10 FUEL 0 ([] : List (List Int)) 0 o34 rfl h35)) ?_
  refine q_sq ?_
  obtain ⟨v36, h37, hm⟩ := bind_s hm
  refine q_vu [qc 1 [110] 8 (solid_Length_ok a1 v36 h37)] 8 [] [(24, vp 8 0)] [] [(8, bx 33 [ci 0, ci v36])] ?_
  refine q_sq ?_
  refine q_sq ?_
  refine q_vu [] 9 [15] [(113, vi (w64 (a4.X.B - a4.X.A))), (114, vi 0)] [] [] ?_
  refine q_fn [.ownB 6 5 9 3 1 (rf e_i64 ([] : List Int))] ⟨[(0, vc (tl e_Slice default a1)), (9, vp 0 0), (11, vp 2 0), (12, vp 3 0), (18, vp 6 0), (24, vp 8 0), (113, vi (w64 (a4.X.B - a4.X.A))), (114, vi 0)], [(0, bx 35 (e_Rect a4)), (2, bx 39 (e_Rates a6)), (3, bx 64 [ci 0, ci 0, ci 0, .emp, .emp, .emp, .emp]), (4, ro 0 3 1 v10.1.length (rf e_i64 v10.1)), (6, bx 64 [ci (w64 (a4.X.B - a4.X.A)), ci a5.Kerf, ci 1, .own 4 0 1 v10.1.length, .own 7 0 1 o34.length, .own 9 0 1 0, .emp]), (7, ro 0 25 1 o34.length (rf (e_lst e_i64) o34)), (8, bx 33 [ci 0, ci v36]), (9, ro 0 3 1 0 (rf e_i64 ([] : List Int)))]⟩ o0 ?_
  refine q_fn [.ownB 6 6 10 3 1 (rf e_i64 ([] : List Int))] ⟨[(0, vc (tl e_Slice default a1)), (9, vp 0 0), (11, vp 2 0), (12, vp 3 0), (18, vp 6 0), (24, vp 8 0), (113, vi (w64 (a4.X.B - a4.X.A))), (114, vi 0)], [(0, bx 35 (e_Rect a4)), (2, bx 39 (e_Rates a6)), (3, bx 64 [ci 0, ci 0, ci 0, .emp, .emp, .emp, .emp]), (4, ro 0 3 1 v10.1.length (rf e_i64 v10.1)), (6, bx 64 [ci (w64 (a4.X.B - a4.X.A)), ci a5.Kerf, ci 1, .own 4 0 1 v10.1.length, .own 7 0 1 o34.length, .own 9 0 1 0, .own 10 0 1 0]), (7, ro 0 25 1 o34.length (rf (e_lst e_i64) o34)), (8, bx 33 [ci 0, ci v36]), (9, ro 0 3 1 0 (rf e_i64 ([] : List Int))), (10, ro 0 3 1 0 (rf e_i64 ([] : List Int)))]⟩ o0 ?_
  obtain ⟨o50, h51, hm⟩ := bind_s hm
  refine R_loop0 (nd Tryd.f32 4084) 4 (by kernel_rfl) FUEL (fun o => edge_Line_L4_T a4 a5 v10 o34 o.1 o.2) o50 (q_hl (edge_Line_L4_S a1 a4 a5 a6 v10 o34 v36 0 ([] : List Int) 0 ([] : List Int) 0) (edge_Line_L4_ok E a1 a4 a5 a6 v10 o34 v36 FUEL 0 ([] : List Int) 0 ([] : List Int) 0 o50 rfl rfl h51)) ?_
  refine q_sq ?_
  refine q_vu [] 11 [18] [(13, vi 0)] [3, 6] [(3, bx 64 [ci (w64 (a4.X.B - a4.X.A)), ci a5.Kerf, ci 1, .own 4 0 1 v10.1.length, .own 7 0 1 o34.length, .own 9 0 1 o50.1.length, .own 10 0 1 o50.2.length])] ?_
  obtain rfl := Option.some.inj hm
  refine H_swap 4 0 (by kernel_rfl) ?_
  refine H_swap 7 1 (by kernel_rfl) ?_
  refine H_swap 9 2 (by kernel_rfl) ?_
  refine H_swap 10 3 (by kernel_rfl) ?_
  refine q_rt ?_
  exact q_rm

end Saw
end Go.SL
