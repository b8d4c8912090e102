import Derived.Test.YtgpgnlllieekbaaDoorEBase
set_option linter.unusedVariables false
set_option linter.unusedSimpArgs false
namespace Go.SL
namespace Saw
open Go.Proofs
set_option maxHeartbeats 4000000

def edge_part_x (r : Rect) : V := va (e_Rect r)

def edge_part_o (r : Rect) : List (Nat × (Nat × O)) := []

theorem edge_part_f (r : Rect) : Frozen (edge_part_o r) := by
 intro i k o h
 unfold edge_part_o at h
 cases h

set_option maxRecDepth 100000 in
theorem edge_part_ok (a1 : Rect) (a2 : Int) (a3 : Int) (r : Rect) (hm : edge_part a1 a2 a3 = some r) : CtX Tryd.prog globs 56 0 0 [.agg (e_Rect a1), .one (ci a2), .one (ci a3)] [] (edge_part_x r) (edge_part_o r) := by
 unfold edge_part at hm
 refine q_E Tryd.f56 21 fun E => ?_
 refine q_sq ?_
 refine q_vn [] 0 ⟨[(1, vi a2), (2, vi a3), (3, vp 0 0), (6, vp 1 0)], [(0, bx 35 (e_Rect a1)), (1, bx 35 [ci 0, ci 0, ci 0, ci 0])]⟩ ?_
 refine q_sq ?_
 refine q_vn [] 2 ⟨[(6, vp 1 0)], [(1, bx 35 [ci (w64 (a1.X.A + a2)), ci (w64 (a1.X.A + a3)), ci a1.Y.A, ci a1.Y.B])]⟩ ?_
 obtain rfl := Option.some.inj hm
 refine q_rt ?_
 exact q_rm

end Saw
end Go.SL

namespace Go.SL
namespace Saw
open Go.Proofs
set_option maxHeartbeats 4000000

def span_Meet_x (r : Span) : V := va (e_Span r)

def span_Meet_o (r : Span) : List (Nat × (Nat × O)) := []

theorem span_Meet_f (r : Span) : Frozen (span_Meet_o r) := by
 intro i k o h
 unfold span_Meet_o at h
 cases h

set_option maxRecDepth 100000 in
theorem span_Meet_ok (a1 : Span) (a2 : Span) (r : Span) (hm : span_Meet a1 a2 = some r) : CtX Tryd.prog globs 36 0 0 [.agg (e_Span a1), .agg (e_Span a2)] [] (span_Meet_x r) (span_Meet_o r) := by
 unfold span_Meet at hm
 refine q_E Tryd.f36 24 fun E => ?_
 refine q_sq ?_
 refine q_vn [] 0 ⟨[(2, vp 0 0), (3, vp 1 0), (4, vp 2 0)], [(0, bx 33 (e_Span a1)), (1, bx 33 (e_Span a2)), (2, bx 33 [ci 0, ci 0])]⟩ ?_
 refine q_sq ?_
 refine q_vu [] 3 [2, 3] [(5, vp 3 0)] [0, 1] [(3, bx 33 [ci (imax a1.A a2.A), ci (imin a1.B a2.B)])] ?_
 refine q_sq ?_
 refine q_sq ?_
 refine q_vu [] 4 [] [(21, vb (decide ((imax a1.A a2.A) ≥ (imin a1.B a2.B))))] [] [] ?_
 refine q_cn (decide ((imax a1.A a2.A) ≥ (imin a1.B a2.B))) (fun b3 => ?_) (fun b3 => ?_)
 ·replace hm := bif_t b3 hm
  refine q_sq ?_
  refine q_vu [] 4 [5, 21] [] [3] [] ?_
  obtain rfl := Option.some.inj hm
  refine q_rt ?_
  exact q_rm
 ·replace hm := bif_f b3 hm
  refine q_sk ?_
  refine q_sq ?_
  refine q_vn [] 4 ⟨[(4, vp 2 0)], [(2, bx 33 [ci (imax a1.A a2.A), ci (imin a1.B a2.B)])]⟩ ?_
  obtain rfl := Option.some.inj hm
  refine q_rt ?_
  exact q_rm

end Saw
end Go.SL

namespace Go.SL
namespace Saw
open Go.Proofs
set_option maxHeartbeats 4000000

def defect_isEmpty_x (r : Bool) : V := vb r

def defect_isEmpty_o (r : Bool) : List (Nat × (Nat × O)) := []

theorem defect_isEmpty_f (r : Bool) : Frozen (defect_isEmpty_o r) := by
 intro i k o h
 unfold defect_isEmpty_o at h
 cases h

set_option maxRecDepth 100000 in
theorem defect_isEmpty_ok (a1 : Span) (r : Bool) (hm : defect_isEmpty a1 = some r) : CtX Tryd.prog globs 109 0 0 [.agg (e_Span a1)] [] (defect_isEmpty_x r) (defect_isEmpty_o r) := by
 unfold defect_isEmpty at hm
 refine q_E Tryd.f109 8 fun E => ?_
 refine q_sq ?_
 refine q_vn [] 0 ⟨[(1, vp 0 0)], [(0, bx 33 (e_Span a1))]⟩ ?_
 refine q_sq ?_
 refine q_vn [] 1 ⟨[(2, vb (decide (a1.A ≥ a1.B)))], []⟩ ?_
 obtain rfl := Option.some.inj hm
 refine q_rt ?_
 exact q_rm

end Saw
end Go.SL

namespace Go.SL
namespace Saw
open Go.Proofs
set_option maxHeartbeats 4000000

def defect_meet_x (r : Box × Bool) : V := .tup [.agg (e_Box r.1), .one (cb r.2)]

def defect_meet_o (r : Box × Bool) : List (Nat × (Nat × O)) := []

theorem defect_meet_f (r : Box × Bool) : Frozen (defect_meet_o r) := by
 intro i k o h
 unfold defect_meet_o at h
 cases h

def defect_meet_k1_S (v3 : Span) (v5 : Span) (v7 : Span) (x17 : Bool) : St :=
 ⟨[(4, vp 2 0), (6, vp 3 0), (35, vb x17)], [(2, bx 57 [ci 0, ci 0, ci 0, ci 0, ci 0, ci 0]), (3, bx 57 [ci v3.A, ci v3.B, ci v5.A, ci v5.B, ci v7.A, ci v7.B])]⟩

set_option maxRecDepth 100000 in
theorem defect_meet_ok (a1 : Box) (a2 : Box) (r : Box × Bool) (hm : defect_meet a1 a2 = some r) : CtX Tryd.prog globs 118 0 0 [.agg (e_Box a1), .agg (e_Box a2)] [] (defect_meet_x r) (defect_meet_o r) := by
 unfold defect_meet at hm
 refine q_E Tryd.f118 38 fun E => ?_
 refine q_sq ?_
 refine q_vn [] 0 ⟨[(2, vp 0 0), (3, vp 1 0), (4, vp 2 0)], [(0, bx 57 (e_Box a1)), (1, bx 57 (e_Box a2)), (2, bx 57 [ci 0, ci 0, ci 0, ci 0, ci 0, ci 0])]⟩ ?_
 refine q_sq ?_
 obtain ⟨v3, h4, hm⟩ := bind_s hm
 obtain ⟨v5, h6, hm⟩ := bind_s hm
 obtain ⟨v7, h8, hm⟩ := bind_s hm
 refine q_du [qc 4 [8, 10] 3 (span_Meet_ok a1.X a2.X v3 h4), qc 9 [13, 15] 3 (span_Meet_ok a1.Y a2.Y v5 h6), qc 14 [18, 20] 3 (span_Meet_ok a1.Z a2.Z v7 h8)] [0, 1, 0, 4, 15, 0, 32, 0, 128, 511, 0, 1024, 0, 4096, 16383, 32767, 0, 131071] 3 [2, 3] [(6, vp 3 0)] [0, 1] [(3, bx 57 [ci v3.A, ci v3.B, ci v5.A, ci v5.B, ci v7.A, ci v7.B])] ?_
 refine q_sq ?_
 refine q_jn (ι := Bool) (fun p => defect_meet_k1_S v3 v5 v7 p) (fun p => defect_meet_k1 v3 v5 v7 p = some r) ?_ ?_
 ·rintro x17 hm
  show H _ (defect_meet_k1_S v3 v5 v7 x17) _ _
  refine q_cn x17 (fun b18 => ?_) (fun b18 => ?_)
  ·replace hm := bif_t b18 hm
   refine q_sq ?_
   refine q_vu [] 4 [6, 35] [(5, vb false)] [3] [] ?_
   obtain rfl := Option.some.inj hm
   refine q_rt ?_
   exact q_rm
  ·replace hm := bif_f b18 hm
   refine q_sk ?_
   refine q_sq ?_
   refine q_vu [] 4 [6, 35] [(5, vb true)] [2, 3] [(2, bx 57 [ci v3.A, ci v3.B, ci v5.A, ci v5.B, ci v7.A, ci v7.B])] ?_
   obtain rfl := Option.some.inj hm
   refine q_rt ?_
   exact q_rm
 ·obtain ⟨v9, h10, hm⟩ := bind_s hm
  rcases Bool.eq_false_or_eq_true v9 with b11 | b11
  ·replace hm := bif_t b11 hm
   refine q_vu [qc 2 [24] 4 (defect_isEmpty_ok v3 v9 h10), qf 3 b11] 4 [] [(35, vb true)] [] [] ?_
   exact q_J (true) hm
  ·replace hm := bif_f b11 hm
   obtain ⟨v12, h13, hm⟩ := bind_s hm
   rcases Bool.eq_false_or_eq_true v12 with b14 | b14
   ·replace hm := bif_t b14 hm
    refine q_vu [qc 2 [24] 4 (defect_isEmpty_ok v3 v9 h10), qf 3 b11, qk 6 [26, 28] 4 ⟨[(26, vb false), (28, va (e_Span v5))], []⟩ (defect_isEmpty_ok v5 v12 h13), qf 8 b14] 4 [] [(35, vb true)] [] [] ?_
    exact q_J (true) hm
   ·replace hm := bif_f b14 hm
    obtain ⟨v15, h16, hm⟩ := bind_s hm
    refine q_vu [qc 2 [24] 4 (defect_isEmpty_ok v3 v9 h10), qf 3 b11, qk 6 [26, 28] 4 ⟨[(26, vb false), (28, va (e_Span v5))], []⟩ (defect_isEmpty_ok v5 v12 h13), qf 8 b14, qk 11 [31, 33] 4 ⟨[(31, vb false), (33, va (e_Span v7))], []⟩ (defect_isEmpty_ok v7 v15 h16)] 4 [] [(35, vb v15)] [] [] ?_
    exact q_J (v15) hm

end Saw
end Go.SL

namespace Go.SL
namespace Saw
open Go.Proofs
set_option maxHeartbeats 4000000

def defect_Touches_x (r : Bool) : V := vb r

def defect_Touches_o (r : Bool) : List (Nat × (Nat × O)) := []

theorem defect_Touches_f (r : Bool) : Frozen (defect_Touches_o r) := by
 intro i k o h
 unfold defect_Touches_o at h
 cases h

set_option maxRecDepth 100000 in
theorem defect_Touches_ok (a1 : Defect) (a2 : Box) (r : Bool) (hm : defect_Touches a1 a2 = some r) : CtX Tryd.prog globs 114 0 0 [.agg (e_Defect a1), .agg (e_Box a2)] [] (defect_Touches_x r) (defect_Touches_o r) := by
 unfold defect_Touches at hm
 refine q_E Tryd.f114 15 fun E => ?_
 refine q_sq ?_
 refine q_vn [] 0 ⟨[(2, vp 0 0), (3, vp 1 0)], [(0, bx 59 (e_Defect a1)), (1, bx 57 (e_Box a2))]⟩ ?_
 refine q_sq ?_
 obtain ⟨v3, h4, hm⟩ := bind_s hm
 refine q_vn [qc 3 [9, 10] 2 (defect_meet_ok a1.Box a2 v3 h4)] 2 ⟨[(6, vb v3.2)], []⟩ ?_
 refine q_sq ?_
 refine q_vn [] 3 ⟨[(4, vb v3.2)], []⟩ ?_
 obtain rfl := Option.some.inj hm
 refine q_rt ?_
 exact q_rm

end Saw
end Go.SL

namespace Go.SL
namespace Saw
open Go.Proofs
set_option maxHeartbeats 4000000

def worth_isWithin_x (r : Bool) : V := vb r

def worth_isWithin_o (r : Bool) : List (Nat × (Nat × O)) := []

theorem worth_isWithin_f (r : Bool) : Frozen (worth_isWithin_o r) := by
 intro i k o h
 unfold worth_isWithin_o at h
 cases h

def worth_isWithin_k1_S (x5 : Bool) : St :=
 ⟨[(4, vb x5)], []⟩

set_option maxRecDepth 100000 in
theorem worth_isWithin_ok (a1 : Span) (a2 : Int) (r : Bool) (hm : worth_isWithin a1 a2 = some r) : CtX Tryd.prog globs 115 0 0 [.agg (e_Span a1), .one (ci a2)] [] (worth_isWithin_x r) (worth_isWithin_o r) := by
 unfold worth_isWithin at hm
 refine q_E Tryd.f115 21 fun E => ?_
 refine q_sq ?_
 refine q_vn [] 0 ⟨[(1, vi a2), (2, vp 0 0)], [(0, bx 33 (e_Span a1))]⟩ ?_
 refine q_jn (ι := Bool) (fun p => worth_isWithin_k1_S p) (fun p => worth_isWithin_k1 p = some r) ?_ ?_
 ·rintro x5 hm
  show H _ (worth_isWithin_k1_S x5) _ _
  obtain rfl := Option.some.inj hm
  refine q_rt ?_
  exact q_rm
 ·rcases Bool.eq_false_or_eq_true (decide (a1.A ≥ 0)) with b3 | b3
  ·replace hm := bif_t b3 hm
   rcases Bool.eq_false_or_eq_true (decide (a1.A < a1.B)) with b4 | b4
   ·replace hm := bif_t b4 hm
    refine q_vn [qf 3 b3, qf 10 b4] 1 ⟨[(4, vb (decide (a1.B ≤ a2)))], []⟩ ?_
    exact q_J (decide (a1.B ≤ a2)) hm
   ·replace hm := bif_f b4 hm
    refine q_vn [qf 3 b3, qf 10 b4] 1 ⟨[(4, vb false)], []⟩ ?_
    exact q_J (false) hm
  ·replace hm := bif_f b3 hm
   refine q_vn [qf 3 b3] 1 ⟨[(4, vb false)], []⟩ ?_
   exact q_J (false) hm

end Saw
end Go.SL

namespace Go.SL
namespace Saw
open Go.Proofs
set_option maxHeartbeats 4000000

def product_Price_x (r : Int × Bool) : V := .tup [.one (ci r.1), .one (cb r.2)]

def product_Price_o (r : Int × Bool) : List (Nat × (Nat × O)) := []

theorem product_Price_f (r : Int × Bool) : Frozen (product_Price_o r) := by
 intro i k o h
 unfold product_Price_o at h
 cases h

def product_Price_L1_S (a1 : Product) (a2 : Int) (x3 : Int) : St :=
 ⟨[(1, vi a2), (2, vp 0 0), (9, vc (tl e_i64 default a1.Lengths)), (10, vi ((a1.Lengths.length : Nat) : Int)), (11, vi x3)], [(0, bx 43 (e_Product a1))]⟩

def product_Price_L1_T : St :=
 ⟨[], []⟩

set_option maxRecDepth 100000 in
theorem product_Price_L1_ok (E : Env 0) (a1 : Product) (a2 : Int) : ∀ (n : Nat) (x3 : Int) (res : (Int × Bool) ⊕ Unit), product_Price_L1 a1 a2 n x3 = some res → HL (kx E 30 0) (nd Tryd.f116 52) (loopQ 0 (fun o => product_Price_L1_T) (fun v st => RetQ Tryd.prog Tryd.f116 (product_Price_x v) (product_Price_o v) .ret st) res) n (product_Price_L1_S a1 a2 x3) := by
 intro n
 induction n with
 | zero =>
  intro x3 res hm
  cases hm
 | succ n ih =>
  intro x3 res hm
  refine HL_succ ?_
  refine q_sq ?_
  refine q_vu [] 1 [] [(12, vb (decide (x3 < ((a1.Lengths.length : Nat) : Int))))] [] [] ?_
  refine q_sq ?_
  refine q_cn (decide (x3 < ((a1.Lengths.length : Nat) : Int))) (fun b4 => ?_) (fun b4 => ?_)
  ·replace hm := bif_t b4 hm
   refine q_sk ?_
   refine q_sq ?_
   refine q_bk 1 ?_
   refine q_sq ?_
   obtain ⟨g5, hm⟩ := bif_n hm
   refine q_vu [qd 1 (Dir.none) (inb_of g5)] 1 [12] [(6, vi x3), (7, vi (a1.Lengths.getD x3.toNat default))] [] [] ?_
   refine q_sq ?_
   refine q_sq ?_
   refine q_vu [] 1 [7] [(18, vb ((a1.Lengths.getD x3.toNat default) != a2))] [] [] ?_
   refine q_cn ((a1.Lengths.getD x3.toNat default) != a2) (fun b6 => ?_) (fun b6 => ?_)
   ·replace hm := bif_t b6 hm
    refine q_ex 1 ?_
    refine q_vu [] 1 [6, 11, 18] [(11, vi (w64 (x3 + 1)))] [] [] ?_
    exact q_hl (product_Price_L1_S a1 a2 (w64 (x3 + 1))) (ih (w64 (x3 + 1)) _ hm)
   ·replace hm := bif_f b6 hm
    refine q_sk ?_
    refine q_sq ?_
    refine q_sq ?_
    refine q_vu [] 1 [1, 9, 10, 11, 18] [(23, vb (decide (x3 ≥ ((a1.Prices.length : Nat) : Int))))] [] [] ?_
    refine q_cn (decide (x3 ≥ ((a1.Prices.length : Nat) : Int))) (fun b7 => ?_) (fun b7 => ?_)
    ·replace hm := bif_t b7 hm
     refine q_sq ?_
     refine q_vn [] 1 ⟨[(4, vi 0), (5, vb false)], []⟩ ?_
     obtain rfl := Option.some.inj hm
     refine q_rt ?_
     refine L1_ret (0, false) ?_
     exact q_rm
    ·replace hm := bif_f b7 hm
     refine q_sk ?_
     refine q_sq ?_
     obtain ⟨g8, hm⟩ := bif_n hm
     refine q_vn [qd 3 (Dir.none) (inb_of g8)] 1 ⟨[(4, vi (a1.Prices.getD x3.toNat default)), (5, vb true)], []⟩ ?_
     obtain rfl := Option.some.inj hm
     refine q_rt ?_
     refine L1_ret ((a1.Prices.getD x3.toNat default), true) ?_
     exact q_rm
  ·replace hm := bif_f b4 hm
   refine q_ex 0 ?_
   obtain rfl := Option.some.inj hm
   exact L1_mk () (by kernel_rfl) (by kernel_rfl)

set_option maxRecDepth 100000 in
theorem product_Price_ok (a1 : Product) (a2 : Int) (r : Int × Bool) (hm : product_Price a1 a2 = some r) : CtX Tryd.prog globs 116 0 0 [.agg (e_Product a1), .one (ci a2)] [] (product_Price_x r) (product_Price_o r) := by
 unfold product_Price at hm
 refine q_E Tryd.f116 30 fun E => ?_
 refine q_sq ?_
 refine q_vn [] 0 ⟨[(1, vi a2), (2, vp 0 0)], [(0, bx 43 (e_Product a1))]⟩ ?_
 refine q_sq ?_
 refine q_sq ?_
 refine q_vu [] 1 [] [(9, vc (tl e_i64 default a1.Lengths)), (10, vi ((a1.Lengths.length : Nat) : Int)), (11, vi 0)] [] [] ?_
 obtain ⟨u11, h10, hm⟩ := bind_s hm
 refine R_loop1 (nd Tryd.f116 52) 0 (by kernel_rfl) FUEL (fun o => product_Price_L1_T) (fun v st => RetQ Tryd.prog Tryd.f116 (product_Price_x v) (product_Price_o v) .ret st) u11 (q_hl (product_Price_L1_S a1 a2 0) (product_Price_L1_ok E a1 a2 FUEL 0 u11 h10)) ?_ ?_
 ·rintro v12 rfl st hr
  obtain rfl := Option.some.inj hm
  exact hr
 ·rintro o9 rfl
  replace hm : _ = some r := hm
  refine q_sq ?_
  refine q_vn [] 1 ⟨[(4, vi 0), (5, vb false)], []⟩ ?_
  obtain rfl := Option.some.inj hm
  refine q_rt ?_
  exact q_rm

end Saw
end Go.SL

namespace Go.SL
namespace Saw
open Go.Proofs
set_option maxHeartbeats 4000000

def worth_view_box_x (r : Box) : V := va (e_Box r)

def worth_view_box_o (r : Box) : List (Nat × (Nat × O)) := []

theorem worth_view_box_f (r : Box) : Frozen (worth_view_box_o r) := by
 intro i k o h
 unfold worth_view_box_o at h
 cases h

set_option maxRecDepth 100000 in
theorem worth_view_box_ok (a1 : Worth_view) (a2 : Span) (r : Box) (hm : worth_view_box a1 a2 = some r) : CtX Tryd.prog globs 113 0 0 [.agg (e_Worth_view a1), .agg (e_Span a2)] [] (worth_view_box_x r) (worth_view_box_o r) := by
 unfold worth_view_box at hm
 refine q_E Tryd.f113 13 fun E => ?_
 refine q_sq ?_
 refine q_vn [] 0 ⟨[(2, vp 0 0), (3, vp 1 0), (4, vp 2 0)], [(0, bx 175 (e_Worth_view a1)), (1, bx 33 (e_Span a2)), (2, bx 57 [ci 0, ci 0, ci 0, ci 0, ci 0, ci 0])]⟩ ?_
 refine q_sq ?_
 refine q_vn [] 3 ⟨[(4, vp 2 0)], [(2, bx 57 [ci a1.rect.X.A, ci a1.rect.X.B, ci a1.rect.Y.A, ci a1.rect.Y.B, ci a2.A, ci a2.B])]⟩ ?_
 obtain rfl := Option.some.inj hm
 refine q_rt ?_
 exact q_rm

end Saw
end Go.SL

namespace Go.SL
namespace Saw
open Go.Proofs
set_option maxHeartbeats 4000000

def worth_worst_x (r : Int) : V := vi r

def worth_worst_o (r : Int) : List (Nat × (Nat × O)) := []

theorem worth_worst_f (r : Int) : Frozen (worth_worst_o r) := by
 intro i k o h
 unfold worth_worst_o at h
 cases h

def worth_worst_k3_S (a1 : List Worth_zone) (a2 : Span) (x4 : Int) (x10 : Int) : St :=
 ⟨[(3, vp 0 0), (5, vi x10), (8, vc (tl e_Worth_zone default a1)), (9, vi ((a1.length : Nat) : Int)), (10, vi x4)], [(0, bx 33 (e_Span a2))]⟩

def worth_worst_k2_S (a1 : List Worth_zone) (a2 : Span) (x3 : Int) (x4 : Int) (x8 : Bool) : St :=
 ⟨[(3, vp 0 0), (5, vi x3), (7, vp 1 0), (8, vc (tl e_Worth_zone default a1)), (9, vi ((a1.length : Nat) : Int)), (10, vi x4), (27, vb x8)], [(0, bx 33 (e_Span a2)), (1, bx 195 [ci (((a1.getD x4.toNat default).z).A), ci (((a1.getD x4.toNat default).z).B), ci ((a1.getD x4.toNat default).lack)])]⟩

def worth_worst_L1_S (a1 : List Worth_zone) (a2 : Span) (x3 : Int) (x4 : Int) : St :=
 ⟨[(3, vp 0 0), (5, vi x3), (8, vc (tl e_Worth_zone default a1)), (9, vi ((a1.length : Nat) : Int)), (10, vi x4)], [(0, bx 33 (e_Span a2))]⟩

def worth_worst_L1_T (x11 : Int) : St :=
 ⟨[(5, vi x11)], []⟩

set_option maxRecDepth 100000 in
theorem worth_worst_L1_ok (E : Env 0) (a1 : List Worth_zone) (a2 : Span) : ∀ (n : Nat) (x3 : Int) (x4 : Int) (res : Int), worth_worst_L1 a1 a2 n x3 x4 = some res → HL (kx E 34 0) (nd Tryd.f117 116) (loopQ0 0 (fun o => worth_worst_L1_T o) res) n (worth_worst_L1_S a1 a2 x3 x4) := by
 intro n
 induction n with
 | zero =>
  intro x3 x4 res hm
  cases hm
 | succ n ih =>
  intro x3 x4 res hm
  refine HL_succ ?_
  refine q_sq ?_
  refine q_vu [] 1 [] [(11, vb (decide (x4 < ((a1.length : Nat) : Int))))] [] [] ?_
  refine q_sq ?_
  refine q_cn (decide (x4 < ((a1.length : Nat) : Int))) (fun b5 => ?_) (fun b5 => ?_)
  ·replace hm := bif_t b5 hm
   refine q_sk ?_
   refine q_jn (ι := Int) (fun p => worth_worst_k3_S a1 a2 x4 p) (fun p => worth_worst_k3 x4 (worth_worst_L1 a1 a2 n) p = some res) ?_ ?_
   ·rintro x10 hm
    show H _ (worth_worst_k3_S a1 a2 x4 x10) _ _
    refine q_vu [] 2 [10] [(10, vi (w64 (x4 + 1)))] [] [] ?_
    exact q_hl (worth_worst_L1_S a1 a2 x10 (w64 (x4 + 1))) (ih x10 (w64 (x4 + 1)) _ hm)
   ·refine q_bk 1 ?_
    refine q_sq ?_
    obtain ⟨g6, hm⟩ := bif_n hm
    refine q_vu [qd 0 (Dir.none) (inb_of g6)] 1 [11] [(7, vp 1 0)] [] [(1, bx 195 [ci (((a1.getD x4.toNat default).z).A), ci (((a1.getD x4.toNat default).z).B), ci ((a1.getD x4.toNat default).lack)])] ?_
    refine q_jn (ι := Bool) (fun p => worth_worst_k2_S a1 a2 x3 x4 p) (fun p => worth_worst_k2 a1 x3 x4 (worth_worst_L1 a1 a2 n) p = some res) ?_ ?_
    ·rintro x8 hm
     show H _ (worth_worst_k2_S a1 a2 x3 x4 x8) _ _
     refine q_cn x8 (fun b9 => ?_) (fun b9 => ?_)
     ·replace hm := bif_t b9 hm
      refine q_vu [] 2 [5, 7, 27] [(5, vi (imax x3 ((a1.getD x4.toNat default).lack)))] [1] [] ?_
      exact q_J (imax x3 ((a1.getD x4.toNat default).lack)) hm
     ·replace hm := bif_f b9 hm
      refine q_sk ?_
      exact q_J (x3) hm
    ·rcases Bool.eq_false_or_eq_true (decide ((((a1.getD x4.toNat default).z).A) < a2.B)) with b7 | b7
     ·replace hm := bif_t b7 hm
      refine q_vu [qf 6 b7] 2 [] [(21, vp 0 0), (22, vi a2.A), (23, vp 1 0), (24, vp 1 1), (25, vi (((a1.getD x4.toNat default).z).B)), (26, vb (decide (a2.A < (((a1.getD x4.toNat default).z).B)))), (27, vb (decide (a2.A < (((a1.getD x4.toNat default).z).B))))] [] [] ?_
      exact q_J (decide (a2.A < (((a1.getD x4.toNat default).z).B))) hm
     ·replace hm := bif_f b7 hm
      refine q_vu [qf 6 b7] 2 [] [(27, vb false)] [] [] ?_
      exact q_J (false) hm
  ·replace hm := bif_f b5 hm
   refine q_ex 0 ?_
   obtain rfl := Option.some.inj hm
   exact L0_mk (by kernel_rfl) (by kernel_rfl)

set_option maxRecDepth 100000 in
theorem worth_worst_ok (a1 : List Worth_zone) (a2 : Span) (r : Int) (hm : worth_worst a1 a2 = some r) : CtX Tryd.prog globs 117 0 0 [.one (tl e_Worth_zone default a1), .agg (e_Span a2)] [] (worth_worst_x r) (worth_worst_o r) := by
 unfold worth_worst at hm
 refine q_E Tryd.f117 34 fun E => ?_
 refine q_sq ?_
 refine q_vn [] 0 ⟨[(0, vc (tl e_Worth_zone default a1)), (3, vp 0 0)], [(0, bx 33 (e_Span a2))]⟩ ?_
 refine q_sq ?_
 refine q_vu [] 1 [] [(5, vi 0)] [] [] ?_
 refine q_sq ?_
 refine q_sq ?_
 refine q_vu [] 1 [0] [(8, vc (tl e_Worth_zone default a1)), (9, vi ((a1.length : Nat) : Int)), (10, vi 0)] [] [] ?_
 obtain ⟨o12, h13, hm⟩ := bind_s hm
 refine R_loop0 (nd Tryd.f117 116) 0 (by kernel_rfl) FUEL (fun o => worth_worst_L1_T o) o12 (q_hl (worth_worst_L1_S a1 a2 0 0) (worth_worst_L1_ok E a1 a2 FUEL 0 0 o12 h13)) ?_
 refine q_sq ?_
 refine q_vn [] 1 ⟨[(4, vi o12)], []⟩ ?_
 obtain rfl := Option.some.inj hm
 refine q_rt ?_
 exact q_rm

end Saw
end Go.SL

namespace Go.SL
namespace Saw
open Go.Proofs
set_option maxHeartbeats 4000000

def worth_view_worth_x (r : Int × Bool) : V := .tup [.one (ci r.1), .one (cb r.2)]

def worth_view_worth_o (r : Int × Bool) : List (Nat × (Nat × O)) := []

theorem worth_view_worth_f (r : Int × Bool) : Frozen (worth_view_worth_o r) := by
 intro i k o h
 unfold worth_view_worth_o at h
 cases h

def worth_view_worth_k3_S (a1 : Worth_view) (a3 : Int) (v14 : Box) (x17 : Int) (x24 : Int) : St :=
 ⟨[(2, vi a3), (8, vi x24), (10, vp 2 0), (45, vc (tl e_Defect default a1.defects)), (46, vi ((a1.defects.length : Nat) : Int)), (47, vi x17)], [(2, bx 57 (e_Box v14))]⟩

def worth_view_worth_L2_S (a1 : Worth_view) (a3 : Int) (v14 : Box) (x16 : Int) (x17 : Int) : St :=
 ⟨[(2, vi a3), (8, vi x16), (10, vp 2 0), (45, vc (tl e_Defect default a1.defects)), (46, vi ((a1.defects.length : Nat) : Int)), (47, vi x17)], [(2, bx 57 (e_Box v14))]⟩

def worth_view_worth_L2_T (x25 : Int) : St :=
 ⟨[(8, vi x25)], []⟩

def worth_view_worth_k1_S (a1 : Worth_view) (a2 : Span) (a3 : Int) (v7 : Int × Bool) (x12 : Bool) : St :=
 ⟨[(2, vi a3), (3, vp 0 0), (4, vp 1 0), (8, vi v7.1), (40, vb x12)], [(0, bx 175 (e_Worth_view a1)), (1, bx 33 (e_Span a2))]⟩

set_option maxRecDepth 100000 in
theorem worth_view_worth_L2_ok (E : Env 0) (a1 : Worth_view) (a3 : Int) (v14 : Box) : ∀ (n : Nat) (x16 : Int) (x17 : Int) (res : (Int × Bool) ⊕ Int), worth_view_worth_L2 a1 a3 v14 n x16 x17 = some res → HL (kx E 64 0) (nd Tryd.f101 1012) (loopQ 0 (fun o => worth_view_worth_L2_T o) (fun v st => RetQ Tryd.prog Tryd.f101 (worth_view_worth_x v) (worth_view_worth_o v) .ret st) res) n (worth_view_worth_L2_S a1 a3 v14 x16 x17) := by
 intro n
 induction n with
 | zero =>
  intro x16 x17 res hm
  cases hm
 | succ n ih =>
  intro x16 x17 res hm
  refine HL_succ ?_
  refine q_sq ?_
  refine q_vu [] 3 [] [(48, vb (decide (x17 < ((a1.defects.length : Nat) : Int))))] [] [] ?_
  refine q_sq ?_
  refine q_cn (decide (x17 < ((a1.defects.length : Nat) : Int))) (fun b18 => ?_) (fun b18 => ?_)
  ·replace hm := bif_t b18 hm
   refine q_sk ?_
   refine q_jn (ι := Int) (fun p => worth_view_worth_k3_S a1 a3 v14 x17 p) (fun p => worth_view_worth_k3 x17 (worth_view_worth_L2 a1 a3 v14 n) p = some res) ?_ ?_
   ·rintro x24 hm
    show H _ (worth_view_worth_k3_S a1 a3 v14 x17 x24) _ _
    refine q_vu [] 4 [47] [(47, vi (w64 (x17 + 1)))] [] [] ?_
    exact q_hl (worth_view_worth_L2_S a1 a3 v14 x24 (w64 (x17 + 1))) (ih x24 (w64 (x17 + 1)) _ hm)
   ·refine q_bk 1 ?_
    refine q_sq ?_
    obtain ⟨g19, hm⟩ := bif_n hm
    refine q_vu [qd 0 (Dir.none) (inb_of g19)] 3 [48] [(12, vp 3 0)] [] [(3, bx 59 [ci ((a1.defects.getD x17.toNat default).Kind), ci ((((a1.defects.getD x17.toNat default).Box).X).A), ci ((((a1.defects.getD x17.toNat default).Box).X).B), ci ((((a1.defects.getD x17.toNat default).Box).Y).A), ci ((((a1.defects.getD x17.toNat default).Box).Y).B), ci ((((a1.defects.getD x17.toNat default).Box).Z).A), ci ((((a1.defects.getD x17.toNat default).Box).Z).B)])] ?_
    refine q_sq ?_
    refine q_sq ?_
    obtain ⟨v20, h21, hm⟩ := bind_s hm
    refine q_vu [qc 2 [51, 52] 4 (defect_Touches_ok (a1.defects.getD x17.toNat default) v14 v20 h21)] 4 [] [(54, vb (!v20))] [] [] ?_
    refine q_cn (!v20) (fun b22 => ?_) (fun b22 => ?_)
    ·replace hm := bif_t b22 hm
     refine q_ex 1 ?_
     exact q_J (x16) hm
    ·replace hm := bif_f b22 hm
     refine q_sk ?_
     refine q_sq ?_
     refine q_sq ?_
     refine q_vu [] 4 [12, 54] [(57, vb (((a1.defects.getD x17.toNat default).Kind) == 3))] [3] [] ?_
     refine q_cn (((a1.defects.getD x17.toNat default).Kind) == 3) (fun b23 => ?_) (fun b23 => ?_)
     ·replace hm := bif_t b23 hm
      refine q_sq ?_
      refine q_vn [] 4 ⟨[(6, vi 0), (7, vb false)], []⟩ ?_
      obtain rfl := Option.some.inj hm
      refine q_rt ?_
      refine L1_ret (0, false) ?_
      exact q_rm
     ·replace hm := bif_f b23 hm
      refine q_sk ?_
      refine q_vu [] 4 [8, 57] [(8, vi (w64 (x16 - a3)))] [] [] ?_
      exact q_J (w64 (x16 - a3)) hm
  ·replace hm := bif_f b18 hm
   refine q_ex 0 ?_
   obtain rfl := Option.some.inj hm
   exact L1_mk x16 (by kernel_rfl) (by kernel_rfl)

set_option maxRecDepth 100000 in
theorem worth_view_worth_ok (a1 : Worth_view) (a2 : Span) (a3 : Int) (r : Int × Bool) (hm : worth_view_worth a1 a2 a3 = some r) : CtX Tryd.prog globs 101 0 0 [.agg (e_Worth_view a1), .agg (e_Span a2), .one (ci a3)] [] (worth_view_worth_x r) (worth_view_worth_o r) := by
 unfold worth_view_worth at hm
 refine q_E Tryd.f101 64 fun E => ?_
 refine q_sq ?_
 refine q_vn [] 0 ⟨[(2, vi a3), (3, vp 0 0), (4, vp 1 0)], [(0, bx 175 (e_Worth_view a1)), (1, bx 33 (e_Span a2))]⟩ ?_
 refine q_sq ?_
 refine q_sq ?_
 obtain ⟨v4, h5, hm⟩ := bind_s hm
 refine q_vu [qc 3 [13, 15] 2 (worth_isWithin_ok a2 a1.length v4 h5)] 2 [] [(17, vb (!v4))] [] [] ?_
 refine q_cn (!v4) (fun b6 => ?_) (fun b6 => ?_)
 ·replace hm := bif_t b6 hm
  refine q_sq ?_
  refine q_vn [] 2 ⟨[(6, vi 0), (7, vb false)], []⟩ ?_
  obtain rfl := Option.some.inj hm
  refine q_rt ?_
  exact q_rm
 ·replace hm := bif_f b6 hm
  refine q_sk ?_
  refine q_sq ?_
  obtain ⟨v7, h8, hm⟩ := bind_s hm
  refine q_vu [qc 7 [20, 25] 2 (product_Price_ok a1.product (w64 (a2.B - a2.A)) v7 h8)] 2 [17] [(8, vi v7.1), (9, vb v7.2)] [] [] ?_
  refine q_sq ?_
  refine q_jn (ι := Bool) (fun p => worth_view_worth_k1_S a1 a2 a3 v7 p) (fun p => worth_view_worth_k1 a1 a2 a3 v7 p = some r) ?_ ?_
  ·rintro x12 hm
   show H _ (worth_view_worth_k1_S a1 a2 a3 v7 x12) _ _
   refine q_cn x12 (fun b13 => ?_) (fun b13 => ?_)
   ·replace hm := bif_t b13 hm
    refine q_sq ?_
    refine q_vn [] 2 ⟨[(6, vi 0), (7, vb false)], []⟩ ?_
    obtain rfl := Option.some.inj hm
    refine q_rt ?_
    exact q_rm
   ·replace hm := bif_f b13 hm
    refine q_sk ?_
    refine q_sq ?_
    obtain ⟨v14, h15, hm⟩ := bind_s hm
    refine q_vu [qc 2 [41, 42] 2 (worth_view_box_ok a1 a2 v14 h15)] 2 [4, 40] [(10, vp 2 0)] [1] [(2, bx 57 (e_Box v14))] ?_
    refine q_sq ?_
    refine q_sq ?_
    refine q_vu [] 3 [3] [(45, vc (tl e_Defect default a1.defects)), (46, vi ((a1.defects.length : Nat) : Int)), (47, vi 0)] [0] [] ?_
    obtain ⟨u28, h27, hm⟩ := bind_s hm
    refine R_loop1 (nd Tryd.f101 1012) 0 (by kernel_rfl) FUEL (fun o => worth_view_worth_L2_T o) (fun v st => RetQ Tryd.prog Tryd.f101 (worth_view_worth_x v) (worth_view_worth_o v) .ret st) u28 (q_hl (worth_view_worth_L2_S a1 a3 v14 v7.1 0) (worth_view_worth_L2_ok E a1 a3 v14 FUEL v7.1 0 u28 h27)) ?_ ?_
    ·rintro v29 rfl st hr
     obtain rfl := Option.some.inj hm
     exact hr
    ·rintro o26 rfl
     replace hm : _ = some r := hm
     refine q_sq ?_
     refine q_vn [] 3 ⟨[(6, vi (imax o26 0)), (7, vb true)], []⟩ ?_
     obtain rfl := Option.some.inj hm
     refine q_rt ?_
     exact q_rm
  ·rcases Bool.eq_false_or_eq_true (!v7.2) with b9 | b9
   ·replace hm := bif_t b9 hm
    refine q_du [qf 2 b9] [0, 1, 3, 7, 15, 7, 63, 7, 135, 391, 1023, 2047] 2 [9] [(40, vb true)] [] [] ?_
    exact q_J (true) hm
   ·replace hm := bif_f b9 hm
    obtain ⟨v10, h11, hm⟩ := bind_s hm
    refine q_du [qf 2 b9, qk 6 [31, 33, 34] 2 ⟨[(31, vb false), (33, vc (tl e_Worth_zone default a1.zones)), (34, va (e_Span a2))], []⟩ (worth_worst_ok a1.zones a2 v10 h11)] [0, 1, 3, 7, 15, 7, 63, 7, 135, 391, 1023, 2047] 2 [9] [(40, vb (decide (v10 > a1.product.Wane)))] [] [] ?_
    exact q_J (decide (v10 > a1.product.Wane)) hm

end Saw
end Go.SL

namespace Go.SL
namespace Saw
open Go.Proofs
set_option maxHeartbeats 4000000

def product_grow_x (r : Int) : V := vi r

def product_grow_o (r : Int) : List (Nat × (Nat × O)) := []

theorem product_grow_f (r : Int) : Frozen (product_grow_o r) := by
 intro i k o h
 unfold product_grow_o at h
 cases h

set_option maxRecDepth 100000 in
theorem product_grow_ok (a1 : Int) (a2 : Int) (r : Int) (hm : product_grow a1 a2 = some r) : CtX Tryd.prog globs 50 0 0 [.one (ci a1), .one (ci a2)] [] (product_grow_x r) (product_grow_o r) := by
 unfold product_grow at hm
 refine q_E Tryd.f50 11 fun E => ?_
 refine q_sq ?_
 refine q_vn [] 0 ⟨[(0, vi a1), (1, vi a2)], []⟩ ?_
 refine q_sq ?_
 refine q_vn [qd 5 (Dir.none) (show (1000 : Int) ≠ 0 by decide)] 0 ⟨[(4, vi (w64 (Int.tdiv (w64 ((w64 (a1 * (w64 (1000 + a2)))) + 999)) 1000)))], []⟩ ?_
 obtain rfl := Option.some.inj hm
 refine q_rt ?_
 exact q_rm

end Saw
end Go.SL

namespace Go.SL
namespace Saw
open Go.Proofs
set_option maxHeartbeats 4000000

def product_isSize_x (r : Bool) : V := vb r

def product_isSize_o (r : Bool) : List (Nat × (Nat × O)) := []

theorem product_isSize_f (r : Bool) : Frozen (product_isSize_o r) := by
 intro i k o h
 unfold product_isSize_o at h
 cases h

def product_isSize_k1_S (x3 : Bool) : St :=
 ⟨[(2, vb x3)], []⟩

set_option maxRecDepth 100000 in
theorem product_isSize_ok (a1 : Int) (r : Bool) (hm : product_isSize a1 = some r) : CtX Tryd.prog globs 49 0 0 [.one (ci a1)] [] (product_isSize_x r) (product_isSize_o r) := by
 unfold product_isSize at hm
 refine q_E Tryd.f49 9 fun E => ?_
 refine q_sq ?_
 refine q_vn [] 0 ⟨[(0, vi a1)], []⟩ ?_
 refine q_jn (ι := Bool) (fun p => product_isSize_k1_S p) (fun p => product_isSize_k1 p = some r) ?_ ?_
 ·rintro x3 hm
  show H _ (product_isSize_k1_S x3) _ _
  obtain rfl := Option.some.inj hm
  refine q_rt ?_
  exact q_rm
 ·rcases Bool.eq_false_or_eq_true (decide (a1 ≥ 1)) with b2 | b2
  ·replace hm := bif_t b2 hm
   refine q_vn [qf 2 b2] 0 ⟨[(2, vb (decide (a1 ≤ 600)))], []⟩ ?_
   exact q_J (decide (a1 ≤ 600)) hm
  ·replace hm := bif_f b2 hm
   refine q_vn [qf 2 b2] 0 ⟨[(2, vb false)], []⟩ ?_
   exact q_J (false) hm

end Saw
end Go.SL

namespace Go.SL
namespace Saw
open Go.Proofs
set_option maxHeartbeats 4000000

def product_Green_x (r : Int × Int) : V := .tup [.one (ci r.1), .one (ci r.2)]

def product_Green_o (r : Int × Int) : List (Nat × (Nat × O)) := []

theorem product_Green_f (r : Int × Int) : Frozen (product_Green_o r) := by
 intro i k o h
 unfold product_Green_o at h
 cases h

def product_Green_k1_S (a1 : Product) (x9 : Bool) : St :=
 ⟨[(1, vp 0 0), (23, vb x9)], [(0, bx 43 (e_Product a1))]⟩

set_option maxRecDepth 100000 in
theorem product_Green_ok (a1 : Product) (r : Int × Int) (hm : product_Green a1 = some r) : CtX Tryd.prog globs 24 0 0 [.agg (e_Product a1)] [] (product_Green_x r) (product_Green_o r) := by
 unfold product_Green at hm
 refine q_E Tryd.f24 34 fun E => ?_
 refine q_sq ?_
 refine q_vn [] 0 ⟨[(1, vp 0 0)], [(0, bx 43 (e_Product a1))]⟩ ?_
 refine q_sq ?_
 refine q_jn (ι := Bool) (fun p => product_Green_k1_S a1 p) (fun p => product_Green_k1 a1 p = some r) ?_ ?_
 ·rintro x9 hm
  show H _ (product_Green_k1_S a1 x9) _ _
  refine q_cn x9 (fun b10 => ?_) (fun b10 => ?_)
  ·replace hm := bif_t b10 hm
   refine q_sq ?_
   refine q_vn [] 1 ⟨[(2, vi 0), (3, vi 0)], []⟩ ?_
   obtain rfl := Option.some.inj hm
   refine q_rt ?_
   exact q_rm
  ·replace hm := bif_f b10 hm
   refine q_sk ?_
   refine q_sq ?_
   obtain ⟨v11, h12, hm⟩ := bind_s hm
   obtain ⟨v13, h14, hm⟩ := bind_s hm
   refine q_dn [qc 4 [25, 27] 1 (product_grow_ok a1.Thick a1.Allow v11 h12), qc 9 [30, 32] 1 (product_grow_ok a1.Width a1.Allow v13 h14)] [0, 1, 0, 4, 15, 0, 32, 0, 128, 511, 1023, 2047] 1 ⟨[(2, vi v11), (3, vi v13)], []⟩ ?_
   obtain rfl := Option.some.inj hm
   refine q_rt ?_
   exact q_rm
 ·obtain ⟨v2, h3, hm⟩ := bind_s hm
  rcases Bool.eq_false_or_eq_true (!v2) with b4 | b4
  ·replace hm := bif_t b4 hm
   refine q_vu [qc 2 [5] 1 (product_isSize_ok a1.Thick v2 h3), qf 4 b4] 1 [] [(23, vb true)] [] [] ?_
   exact q_J (true) hm
  ·replace hm := bif_f b4 hm
   obtain ⟨v5, h6, hm⟩ := bind_s hm
   rcases Bool.eq_false_or_eq_true (!v5) with b7 | b7
   ·replace hm := bif_t b7 hm
    refine q_vu [qc 2 [5] 1 (product_isSize_ok a1.Thick v2 h3), qf 4 b4, qk 7 [8, 10] 1 ⟨[(8, vb false), (10, vi a1.Width)], []⟩ (product_isSize_ok a1.Width v5 h6), qf 10 b7] 1 [] [(23, vb true)] [] [] ?_
    exact q_J (true) hm
   ·replace hm := bif_f b7 hm
    rcases Bool.eq_false_or_eq_true (decide (a1.Allow < 0)) with b8 | b8
    ·replace hm := bif_t b8 hm
     refine q_vu [qc 2 [5] 1 (product_isSize_ok a1.Thick v2 h3), qf 4 b4, qk 7 [8, 10] 1 ⟨[(8, vb false), (10, vi a1.Width)], []⟩ (product_isSize_ok a1.Width v5 h6), qf 10 b7, qf 15 b8] 1 [] [(23, vb true)] [] [] ?_
     exact q_J (true) hm
    ·replace hm := bif_f b8 hm
     refine q_vu [qc 2 [5] 1 (product_isSize_ok a1.Thick v2 h3), qf 4 b4, qk 7 [8, 10] 1 ⟨[(8, vb false), (10, vi a1.Width)], []⟩ (product_isSize_ok a1.Width v5 h6), qf 10 b7, qf 15 b8] 1 [] [(23, vb (decide (a1.Allow > 200)))] [] [] ?_
     exact q_J (decide (a1.Allow > 200)) hm

end Saw
end Go.SL

namespace Go.SL
namespace Saw
open Go.Proofs
set_option maxHeartbeats 4000000

def section_inRange_x (r : Bool) : V := vb r

def section_inRange_o (r : Bool) : List (Nat × (Nat × O)) := []

theorem section_inRange_f (r : Bool) : Frozen (section_inRange_o r) := by
 intro i k o h
 unfold section_inRange_o at h
 cases h

def section_inRange_k1_S (x3 : Bool) : St :=
 ⟨[(2, vb x3)], []⟩

set_option maxRecDepth 100000 in
theorem section_inRange_ok (a1 : Span) (r : Bool) (hm : section_inRange a1 = some r) : CtX Tryd.prog globs 91 0 0 [.agg (e_Span a1)] [] (section_inRange_x r) (section_inRange_o r) := by
 unfold section_inRange at hm
 refine q_E Tryd.f91 17 fun E => ?_
 refine q_sq ?_
 refine q_vn [] 0 ⟨[(1, vp 0 0)], [(0, bx 33 (e_Span a1))]⟩ ?_
 refine q_jn (ι := Bool) (fun p => section_inRange_k1_S p) (fun p => section_inRange_k1 p = some r) ?_ ?_
 ·rintro x3 hm
  show H _ (section_inRange_k1_S x3) _ _
  obtain rfl := Option.some.inj hm
  refine q_rt ?_
  exact q_rm
 ·rcases Bool.eq_false_or_eq_true (decide ((imin a1.A a1.B) ≥ (-600))) with b2 | b2
  ·replace hm := bif_t b2 hm
   refine q_vn [qf 6 b2] 1 ⟨[(2, vb (decide ((imax a1.A a1.B) ≤ 600)))], []⟩ ?_
   exact q_J (decide ((imax a1.A a1.B) ≤ 600)) hm
  ·replace hm := bif_f b2 hm
   refine q_vn [qf 6 b2] 1 ⟨[(2, vb false)], []⟩ ?_
   exact q_J (false) hm

end Saw
end Go.SL

namespace Go.SL
namespace Saw
open Go.Proofs
set_option maxHeartbeats 4000000

def section_isEmpty_x (r : Bool) : V := vb r

def section_isEmpty_o (r : Bool) : List (Nat × (Nat × O)) := []

theorem section_isEmpty_f (r : Bool) : Frozen (section_isEmpty_o r) := by
 intro i k o h
 unfold section_isEmpty_o at h
 cases h

set_option maxRecDepth 100000 in
theorem section_isEmpty_ok (a1 : Span) (r : Bool) (hm : section_isEmpty a1 = some r) : CtX Tryd.prog globs 31 0 0 [.agg (e_Span a1)] [] (section_isEmpty_x r) (section_isEmpty_o r) := by
 unfold section_isEmpty at hm
 refine q_E Tryd.f31 8 fun E => ?_
 refine q_sq ?_
 refine q_vn [] 0 ⟨[(1, vp 0 0)], [(0, bx 33 (e_Span a1))]⟩ ?_
 refine q_sq ?_
 refine q_vn [] 1 ⟨[(2, vb (decide (a1.A ≥ a1.B)))], []⟩ ?_
 obtain rfl := Option.some.inj hm
 refine q_rt ?_
 exact q_rm

end Saw
end Go.SL

namespace Go.SL
namespace Saw
open Go.Proofs
set_option maxHeartbeats 4000000

def section_Check_x (r : Int) : V := vi r

def section_Check_o (r : Int) : List (Nat × (Nat × O)) := []

theorem section_Check_f (r : Int) : Frozen (section_Check_o r) := by
 intro i k o h
 unfold section_Check_o at h
 cases h

def section_Check_L2_S (a1 : Section) (x6 : Int) : St :=
 ⟨[(1, vp 0 0), (3, vi ((a1.Rows.length : Nat) : Int)), (24, vc (tl e_Span default a1.Rows)), (25, vi ((a1.Rows.length : Nat) : Int)), (26, vi x6)], [(0, bx 52 (e_Section a1))]⟩

def section_Check_L2_T (a1 : Section) : St :=
 ⟨[(1, vp 0 0), (3, vi ((a1.Rows.length : Nat) : Int))], [(0, bx 52 (e_Section a1))]⟩

def section_Check_k5_S (a1 : Section) (x27 : Int) (x33 : Bool) : St :=
 ⟨[(54, vc (tl e_Span default a1.Rows)), (55, vi ((a1.Rows.length : Nat) : Int)), (56, vi x27), (66, vb x33)], []⟩

def section_Check_L4_S (a1 : Section) (x27 : Int) : St :=
 ⟨[(54, vc (tl e_Span default a1.Rows)), (55, vi ((a1.Rows.length : Nat) : Int)), (56, vi x27)], []⟩

def section_Check_L4_T : St :=
 ⟨[], []⟩

def section_Check_k3_S (a1 : Section) (x25 : Bool) : St :=
 ⟨[(1, vp 0 0), (52, vb x25)], [(0, bx 52 (e_Section a1))]⟩

def section_Check_k1_S (a1 : Section) (x4 : Bool) : St :=
 ⟨[(1, vp 0 0), (3, vi ((a1.Rows.length : Nat) : Int)), (22, vb x4)], [(0, bx 52 (e_Section a1))]⟩

set_option maxRecDepth 100000 in
theorem section_Check_L2_ok (E : Env 0) (a1 : Section) : ∀ (n : Nat) (x6 : Int) (res : Int ⊕ Unit), section_Check_L2 a1 n x6 = some res → HL (kx E 68 0) (nd Tryd.f59 500) (loopQ 0 (fun o => section_Check_L2_T a1) (fun v st => RetQ Tryd.prog Tryd.f59 (section_Check_x v) (section_Check_o v) .ret st) res) n (section_Check_L2_S a1 x6) := by
 intro n
 induction n with
 | zero =>
  intro x6 res hm
  cases hm
 | succ n ih =>
  intro x6 res hm
  refine HL_succ ?_
  refine q_sq ?_
  refine q_vu [] 1 [] [(27, vb (decide (x6 < ((a1.Rows.length : Nat) : Int))))] [] [] ?_
  refine q_sq ?_
  refine q_cn (decide (x6 < ((a1.Rows.length : Nat) : Int))) (fun b7 => ?_) (fun b7 => ?_)
  ·replace hm := bif_t b7 hm
   refine q_sk ?_
   refine q_sq ?_
   refine q_bk 1 ?_
   refine q_sq ?_
   obtain ⟨g8, hm⟩ := bif_n hm
   refine q_vu [qd 0 (Dir.none) (inb_of g8)] 1 [27] [(5, vp 1 0)] [] [(1, bx 33 [ci ((a1.Rows.getD x6.toNat default).A), ci ((a1.Rows.getD x6.toNat default).B)])] ?_
   refine q_sq ?_
   obtain ⟨v9, h10, hm⟩ := bind_s hm
   refine q_vu [qc 1 [30] 2 (section_inRange_ok (a1.Rows.getD x6.toNat default) v9 h10)] 2 [5] [(32, vb (!v9))] [1] [] ?_
   refine q_cn (!v9) (fun b11 => ?_) (fun b11 => ?_)
   ·replace hm := bif_t b11 hm
    refine q_sq ?_
    refine q_vn [] 2 ⟨[(2, vi 9)], []⟩ ?_
    obtain rfl := Option.some.inj hm
    refine q_rt ?_
    refine L1_ret 9 ?_
    exact q_rm
   ·replace hm := bif_f b11 hm
    refine q_sk ?_
    refine q_vu [] 2 [26, 32] [(26, vi (w64 (x6 + 1)))] [] [] ?_
    exact q_hl (section_Check_L2_S a1 (w64 (x6 + 1))) (ih (w64 (x6 + 1)) _ hm)
  ·replace hm := bif_f b7 hm
   refine q_ex 0 ?_
   obtain rfl := Option.some.inj hm
   exact L1_mk () (by kernel_rfl) (by kernel_rfl)

set_option maxRecDepth 100000 in
theorem section_Check_L4_ok (E : Env 0) (a1 : Section) : ∀ (n : Nat) (x27 : Int) (res : Int ⊕ Unit), section_Check_L4 a1 n x27 = some res → HL (kx E 68 0) (nd Tryd.f59 4084) (loopQ 2 (fun o => section_Check_L4_T) (fun v st => RetQ Tryd.prog Tryd.f59 (section_Check_x v) (section_Check_o v) .ret st) res) n (section_Check_L4_S a1 x27) := by
 intro n
 induction n with
 | zero =>
  intro x27 res hm
  cases hm
 | succ n ih =>
  intro x27 res hm
  refine HL_succ ?_
  refine q_sq ?_
  refine q_vu [] 1 [] [(57, vb (decide (x27 < ((a1.Rows.length : Nat) : Int))))] [] [] ?_
  refine q_sq ?_
  refine q_cn (decide (x27 < ((a1.Rows.length : Nat) : Int))) (fun b28 => ?_) (fun b28 => ?_)
  ·replace hm := bif_t b28 hm
   refine q_sk ?_
   refine q_sq ?_
   refine q_bk 3 ?_
   refine q_sq ?_
   obtain ⟨g29, hm⟩ := bif_n hm
   refine q_vu [qd 0 (Dir.none) (inb_of g29)] 1 [57] [(7, vp 1 0)] [] [(1, bx 33 [ci ((a1.Rows.getD x27.toNat default).A), ci ((a1.Rows.getD x27.toNat default).B)])] ?_
   refine q_jn (ι := Bool) (fun p => section_Check_k5_S a1 x27 p) (fun p => section_Check_k5 x27 (section_Check_L4 a1 n) p = some res) ?_ ?_
   ·rintro x33 hm
    show H _ (section_Check_k5_S a1 x27 x33) _ _
    refine q_cn x33 (fun b34 => ?_) (fun b34 => ?_)
    ·replace hm := bif_t b34 hm
     refine q_sq ?_
     refine q_vn [] 2 ⟨[(2, vi 19)], []⟩ ?_
     obtain rfl := Option.some.inj hm
     refine q_rt ?_
     refine L1_ret 19 ?_
     exact q_rm
    ·replace hm := bif_f b34 hm
     refine q_sk ?_
     refine q_vu [] 2 [56, 66] [(56, vi (w64 (x27 + 1)))] [] [] ?_
     exact q_hl (section_Check_L4_S a1 (w64 (x27 + 1))) (ih (w64 (x27 + 1)) _ hm)
   ·obtain ⟨v30, h31, hm⟩ := bind_s hm
    rcases Bool.eq_false_or_eq_true v30 with b32 | b32
    ·replace hm := bif_t b32 hm
     refine q_vu [qc 1 [60] 2 (section_isEmpty_ok (a1.Rows.getD x27.toNat default) v30 h31), qf 2 b32] 2 [7] [(63, va [ci ((a1.Rows.getD x27.toNat default).A), ci ((a1.Rows.getD x27.toNat default).B)]), (64, va [ci 0, ci 0]), (65, vb (!((((a1.Rows.getD x27.toNat default).A) == 0) && ((((a1.Rows.getD x27.toNat default).B) == 0) && true)))), (66, vb (!((((a1.Rows.getD x27.toNat default).A) == 0) && ((((a1.Rows.getD x27.toNat default).B) == 0) && true))))] [1] [] ?_
     exact q_J (!((((a1.Rows.getD x27.toNat default).A) == 0) && ((((a1.Rows.getD x27.toNat default).B) == 0) && true))) hm
    ·replace hm := bif_f b32 hm
     refine q_vu [qc 1 [60] 2 (section_isEmpty_ok (a1.Rows.getD x27.toNat default) v30 h31), qf 2 b32] 2 [7] [(66, vb false)] [1] [] ?_
     exact q_J (false) hm
  ·replace hm := bif_f b28 hm
   refine q_ex 2 ?_
   obtain rfl := Option.some.inj hm
   exact L1_mk () (by kernel_rfl) (by kernel_rfl)

set_option maxRecDepth 100000 in
theorem section_Check_ok (a1 : Section) (r : Int) (hm : section_Check a1 = some r) : CtX Tryd.prog globs 59 0 0 [.agg (e_Section a1)] [] (section_Check_x r) (section_Check_o r) := by
 unfold section_Check at hm
 refine q_E Tryd.f59 68 fun E => ?_
 refine q_sq ?_
 refine q_vn [] 0 ⟨[(1, vp 0 0)], [(0, bx 52 (e_Section a1))]⟩ ?_
 refine q_sq ?_
 refine q_vu [] 1 [] [(3, vi ((a1.Rows.length : Nat) : Int))] [] [] ?_
 refine q_sq ?_
 refine q_sq ?_
 refine q_vu [] 1 [] [(12, vb (decide (((a1.Rows.length : Nat) : Int) > 120)))] [] [] ?_
 refine q_cn (decide (((a1.Rows.length : Nat) : Int) > 120)) (fun b2 => ?_) (fun b2 => ?_)
 ·replace hm := bif_t b2 hm
  refine q_sq ?_
  refine q_vn [] 1 ⟨[(2, vi 4)], []⟩ ?_
  obtain rfl := Option.some.inj hm
  refine q_rt ?_
  exact q_rm
 ·replace hm := bif_f b2 hm
  refine q_sk ?_
  refine q_sq ?_
  refine q_jn (ι := Bool) (fun p => section_Check_k1_S a1 p) (fun p => section_Check_k1 a1 p = some r) ?_ ?_
  ·rintro x4 hm
   show H _ (section_Check_k1_S a1 x4) _ _
   refine q_cn x4 (fun b5 => ?_) (fun b5 => ?_)
   ·replace hm := bif_t b5 hm
    refine q_sq ?_
    refine q_vn [] 1 ⟨[(2, vi 9)], []⟩ ?_
    obtain rfl := Option.some.inj hm
    refine q_rt ?_
    exact q_rm
   ·replace hm := bif_f b5 hm
    refine q_sk ?_
    refine q_sq ?_
    refine q_sq ?_
    refine q_vu [] 1 [22] [(24, vc (tl e_Span default a1.Rows)), (25, vi ((a1.Rows.length : Nat) : Int)), (26, vi 0)] [] [] ?_
    obtain ⟨u14, h13, hm⟩ := bind_s hm
    refine R_loop1 (nd Tryd.f59 500) 0 (by kernel_rfl) FUEL (fun o => section_Check_L2_T a1) (fun v st => RetQ Tryd.prog Tryd.f59 (section_Check_x v) (section_Check_o v) .ret st) u14 (q_hl (section_Check_L2_S a1 0) (section_Check_L2_ok E a1 FUEL 0 u14 h13)) ?_ ?_
    ·rintro v15 rfl st hr
     obtain rfl := Option.some.inj hm
     exact hr
    ·rintro o12 rfl
     replace hm : _ = some r := hm
     refine q_sq ?_
     refine q_sq ?_
     refine q_vu [] 1 [] [(35, vb (((a1.Rows.length : Nat) : Int) == 0))] [] [] ?_
     refine q_cn (((a1.Rows.length : Nat) : Int) == 0) (fun b16 => ?_) (fun b16 => ?_)
     ·replace hm := bif_t b16 hm
      refine q_sq ?_
      refine q_sq ?_
      refine q_vn [] 1 ⟨[(38, vb (a1.Low != 0))], []⟩ ?_
      refine q_cn (a1.Low != 0) (fun b17 => ?_) (fun b17 => ?_)
      ·replace hm := bif_t b17 hm
       refine q_sq ?_
       refine q_vn [] 1 ⟨[(2, vi 19)], []⟩ ?_
       obtain rfl := Option.some.inj hm
       refine q_rt ?_
       exact q_rm
      ·replace hm := bif_f b17 hm
       refine q_sk ?_
       refine q_sq ?_
       refine q_vn [] 1 ⟨[(2, vi 0)], []⟩ ?_
       obtain rfl := Option.some.inj hm
       refine q_rt ?_
       exact q_rm
     ·replace hm := bif_f b16 hm
      refine q_sk ?_
      refine q_sq ?_
      refine q_jn (ι := Bool) (fun p => section_Check_k3_S a1 p) (fun p => section_Check_k3 a1 p = some r) ?_ ?_
      ·rintro x25 hm
       show H _ (section_Check_k3_S a1 x25) _ _
       refine q_cn x25 (fun b26 => ?_) (fun b26 => ?_)
       ·replace hm := bif_t b26 hm
        refine q_sq ?_
        refine q_vn [] 1 ⟨[(2, vi 19)], []⟩ ?_
        obtain rfl := Option.some.inj hm
        refine q_rt ?_
        exact q_rm
       ·replace hm := bif_f b26 hm
        refine q_sk ?_
        refine q_sq ?_
        refine q_sq ?_
        refine q_vn [] 1 ⟨[(54, vc (tl e_Span default a1.Rows)), (55, vi ((a1.Rows.length : Nat) : Int)), (56, vi 0)], []⟩ ?_
        obtain ⟨u37, h36, hm⟩ := bind_s hm
        refine R_loop1 (nd Tryd.f59 4084) 2 (by kernel_rfl) FUEL (fun o => section_Check_L4_T) (fun v st => RetQ Tryd.prog Tryd.f59 (section_Check_x v) (section_Check_o v) .ret st) u37 (q_hl (section_Check_L4_S a1 0) (section_Check_L4_ok E a1 FUEL 0 u37 h36)) ?_ ?_
        ·rintro v38 rfl st hr
         obtain rfl := Option.some.inj hm
         exact hr
        ·rintro o35 rfl
         replace hm : _ = some r := hm
         refine q_sq ?_
         refine q_vn [] 1 ⟨[(2, vi 0)], []⟩ ?_
         obtain rfl := Option.some.inj hm
         refine q_rt ?_
         exact q_rm
      ·obtain ⟨g18, hm⟩ := bif_n hm
       obtain ⟨v19, h20, hm⟩ := bind_s hm
       rcases Bool.eq_false_or_eq_true v19 with b21 | b21
       ·replace hm := bif_t b21 hm
        refine q_vu [qd 2 (Dir.none) (inb_of g18), qc 4 [42] 1 (section_isEmpty_ok (a1.Rows.getD (0 : Int).toNat default) v19 h20), qf 5 b21] 1 [3, 35] [(52, vb true)] [] [] ?_
        exact q_J (true) hm
       ·replace hm := bif_f b21 hm
        obtain ⟨g22, hm⟩ := bif_n hm
        obtain ⟨v23, h24, hm⟩ := bind_s hm
        refine q_vu [qd 2 (Dir.none) (inb_of g18), qc 4 [42] 1 (section_isEmpty_ok (a1.Rows.getD (0 : Int).toNat default) v19 h20), qf 5 b21, qd 10 (Dir.none) (inb_of g22), qk 12 [44, 50] 1 ⟨[(44, vb false), (50, va [ci ((a1.Rows.getD (w64 (((a1.Rows.length : Nat) : Int) - 1)).toNat default).A), ci ((a1.Rows.getD (w64 (((a1.Rows.length : Nat) : Int) - 1)).toNat default).B)])], []⟩ (section_isEmpty_ok (a1.Rows.getD (w64 (((a1.Rows.length : Nat) : Int) - 1)).toNat default) v23 h24)] 1 [3, 35] [(52, vb v23)] [] [] ?_
        exact q_J (v23) hm
  ·rcases Bool.eq_false_or_eq_true (decide (a1.Low < (-60))) with b3 | b3
   ·replace hm := bif_t b3 hm
    refine q_vu [qf 3 b3] 1 [12] [(22, vb true)] [] [] ?_
    exact q_J (true) hm
   ·replace hm := bif_f b3 hm
    refine q_vu [qf 3 b3] 1 [12] [(22, vb (decide (a1.Low > (w64 (60 - ((a1.Rows.length : Nat) : Int))))))] [] [] ?_
    exact q_J (decide (a1.Low > (w64 (60 - ((a1.Rows.length : Nat) : Int))))) hm

end Saw
end Go.SL

namespace Go.SL
namespace Saw
open Go.Proofs
set_option maxHeartbeats 4000000

def solid_Check_x (r : Int) : V := vi r

def solid_Check_o (r : Int) : List (Nat × (Nat × O)) := []

theorem solid_Check_f (r : Int) : Frozen (solid_Check_o r) := by
 intro i k o h
 unfold solid_Check_o at h
 cases h

def solid_Check_k2_S (a1 : List Slice) (x4 : Int) (x5 : Int) (x13 : Bool) : St :=
 ⟨[(3, vi x4), (5, vp 0 0), (13, vc (tl e_Slice default a1)), (14, vi ((a1.length : Nat) : Int)), (15, vi x5), (39, vb x13)], [(0, bx 54 [ci ((a1.getD x5.toNat default).Len), ci (((a1.getD x5.toNat default).Sec).Low), tl e_Span default (((a1.getD x5.toNat default).Sec).Rows)])]⟩

def solid_Check_L1_S (a1 : List Slice) (x4 : Int) (x5 : Int) : St :=
 ⟨[(3, vi x4), (13, vc (tl e_Slice default a1)), (14, vi ((a1.length : Nat) : Int)), (15, vi x5)], []⟩

def solid_Check_L1_T : St :=
 ⟨[], []⟩

set_option maxRecDepth 100000 in
theorem solid_Check_L1_ok (E : Env 0) (a1 : List Slice) : ∀ (n : Nat) (x4 : Int) (x5 : Int) (res : Int ⊕ Unit), solid_Check_L1 a1 n x4 x5 = some res → HL (kx E 45 0) (nd Tryd.f63 500) (loopQ 0 (fun o => solid_Check_L1_T) (fun v st => RetQ Tryd.prog Tryd.f63 (solid_Check_x v) (solid_Check_o v) .ret st) res) n (solid_Check_L1_S a1 x4 x5) := by
 intro n
 induction n with
 | zero =>
  intro x4 x5 res hm
  cases hm
 | succ n ih =>
  intro x4 x5 res hm
  refine HL_succ ?_
  refine q_sq ?_
  refine q_vu [] 0 [] [(16, vb (decide (x5 < ((a1.length : Nat) : Int))))] [] [] ?_
  refine q_sq ?_
  refine q_cn (decide (x5 < ((a1.length : Nat) : Int))) (fun b6 => ?_) (fun b6 => ?_)
  ·replace hm := bif_t b6 hm
   refine q_sk ?_
   refine q_sq ?_
   refine q_bk 1 ?_
   refine q_sq ?_
   obtain ⟨g7, hm⟩ := bif_n hm
   refine q_vu [qd 0 (Dir.none) (inb_of g7)] 0 [16] [(5, vp 0 0)] [] [(0, bx 54 [ci ((a1.getD x5.toNat default).Len), ci (((a1.getD x5.toNat default).Sec).Low), tl e_Span default (((a1.getD x5.toNat default).Sec).Rows)])] ?_
   refine q_sq ?_
   refine q_sq ?_
   obtain ⟨v8, h9, hm⟩ := bind_s hm
   refine q_vu [qc 2 [20] 1 (section_Check_ok ((a1.getD x5.toNat default).Sec) v8 h9)] 1 [] [(6, vi v8)] [] [] ?_
   refine q_sq ?_
   refine q_vu [] 1 [] [(23, vb (v8 != 0))] [] [] ?_
   refine q_cn (v8 != 0) (fun b10 => ?_) (fun b10 => ?_)
   ·replace hm := bif_t b10 hm
    refine q_sq ?_
    refine q_vn [] 1 ⟨[(2, vi v8)], []⟩ ?_
    obtain rfl := Option.some.inj hm
    refine q_rt ?_
    refine L1_ret v8 ?_
    exact q_rm
   ·replace hm := bif_f b10 hm
    refine q_sk ?_
    refine q_sq ?_
    refine q_sq ?_
    refine q_vu [] 1 [6, 23] [(29, vb ((((((a1.getD x5.toNat default).Sec).Rows).length : Nat) : Int) == 0))] [] [] ?_
    refine q_cn ((((((a1.getD x5.toNat default).Sec).Rows).length : Nat) : Int) == 0) (fun b11 => ?_) (fun b11 => ?_)
    ·replace hm := bif_t b11 hm
     refine q_sq ?_
     refine q_vn [] 1 ⟨[(2, vi 18)], []⟩ ?_
     obtain rfl := Option.some.inj hm
     refine q_rt ?_
     refine L1_ret 18 ?_
     exact q_rm
    ·replace hm := bif_f b11 hm
     refine q_sk ?_
     refine q_sq ?_
     refine q_jn (ι := Bool) (fun p => solid_Check_k2_S a1 x4 x5 p) (fun p => solid_Check_k2 a1 x4 x5 (solid_Check_L1 a1 n) p = some res) ?_ ?_
     ·rintro x13 hm
      show H _ (solid_Check_k2_S a1 x4 x5 x13) _ _
      refine q_cn x13 (fun b14 => ?_) (fun b14 => ?_)
      ·replace hm := bif_t b14 hm
       refine q_sq ?_
       refine q_vn [] 1 ⟨[(2, vi 9)], []⟩ ?_
       obtain rfl := Option.some.inj hm
       refine q_rt ?_
       refine L1_ret 9 ?_
       exact q_rm
      ·replace hm := bif_f b14 hm
       refine q_sk ?_
       refine q_vu [] 1 [3, 5, 39] [(3, vi (w64 (x4 + ((a1.getD x5.toNat default).Len))))] [0] [] ?_
       refine q_vu [] 1 [15] [(15, vi (w64 (x5 + 1)))] [] [] ?_
       exact q_hl (solid_Check_L1_S a1 (w64 (x4 + ((a1.getD x5.toNat default).Len))) (w64 (x5 + 1))) (ih (w64 (x4 + ((a1.getD x5.toNat default).Len))) (w64 (x5 + 1)) _ hm)
     ·rcases Bool.eq_false_or_eq_true (decide (((a1.getD x5.toNat default).Len) < 1)) with b12 | b12
      ·replace hm := bif_t b12 hm
       refine q_vu [qf 3 b12] 1 [29] [(39, vb true)] [] [] ?_
       exact q_J (true) hm
      ·replace hm := bif_f b12 hm
       refine q_vu [qf 3 b12] 1 [29] [(34, vp 0 0), (35, vi ((a1.getD x5.toNat default).Len)), (36, vi x4), (37, vi (w64 (20000 - x4))), (38, vb (decide (((a1.getD x5.toNat default).Len) > (w64 (20000 - x4))))), (39, vb (decide (((a1.getD x5.toNat default).Len) > (w64 (20000 - x4)))))] [] [] ?_
       exact q_J (decide (((a1.getD x5.toNat default).Len) > (w64 (20000 - x4)))) hm
  ·replace hm := bif_f b6 hm
   refine q_ex 0 ?_
   obtain rfl := Option.some.inj hm
   exact L1_mk () (by kernel_rfl) (by kernel_rfl)

set_option maxRecDepth 100000 in
theorem solid_Check_ok (a1 : List Slice) (r : Int) (hm : solid_Check a1 = some r) : CtX Tryd.prog globs 63 0 0 [.one (tl e_Slice default a1)] [] (solid_Check_x r) (solid_Check_o r) := by
 unfold solid_Check at hm
 refine q_E Tryd.f63 45 fun E => ?_
 refine q_sq ?_
 refine q_vn [] 0 ⟨[(0, vc (tl e_Slice default a1))], []⟩ ?_
 refine q_sq ?_
 refine q_sq ?_
 refine q_vu [] 0 [] [(9, vb (((a1.length : Nat) : Int) == 0))] [] [] ?_
 refine q_cn (((a1.length : Nat) : Int) == 0) (fun b2 => ?_) (fun b2 => ?_)
 ·replace hm := bif_t b2 hm
  refine q_sq ?_
  refine q_vn [] 0 ⟨[(2, vi 3)], []⟩ ?_
  obtain rfl := Option.some.inj hm
  refine q_rt ?_
  exact q_rm
 ·replace hm := bif_f b2 hm
  refine q_sk ?_
  refine q_sq ?_
  refine q_sq ?_
  refine q_vu [] 0 [9] [(12, vb (decide (((a1.length : Nat) : Int) > 24)))] [] [] ?_
  refine q_cn (decide (((a1.length : Nat) : Int) > 24)) (fun b3 => ?_) (fun b3 => ?_)
  ·replace hm := bif_t b3 hm
   refine q_sq ?_
   refine q_vn [] 0 ⟨[(2, vi 4)], []⟩ ?_
   obtain rfl := Option.some.inj hm
   refine q_rt ?_
   exact q_rm
  ·replace hm := bif_f b3 hm
   refine q_sk ?_
   refine q_sq ?_
   refine q_vu [] 0 [12] [(3, vi 0)] [] [] ?_
   refine q_sq ?_
   refine q_sq ?_
   refine q_vu [] 0 [0] [(13, vc (tl e_Slice default a1)), (14, vi ((a1.length : Nat) : Int)), (15, vi 0)] [] [] ?_
   obtain ⟨u17, h16, hm⟩ := bind_s hm
   refine R_loop1 (nd Tryd.f63 500) 0 (by kernel_rfl) FUEL (fun o => solid_Check_L1_T) (fun v st => RetQ Tryd.prog Tryd.f63 (solid_Check_x v) (solid_Check_o v) .ret st) u17 (q_hl (solid_Check_L1_S a1 0 0) (solid_Check_L1_ok E a1 FUEL 0 0 u17 h16)) ?_ ?_
   ·rintro v18 rfl st hr
    obtain rfl := Option.some.inj hm
    exact hr
   ·rintro o15 rfl
    replace hm : _ = some r := hm
    refine q_sq ?_
    refine q_vn [] 0 ⟨[(2, vi 0)], []⟩ ?_
    obtain rfl := Option.some.inj hm
    refine q_rt ?_
    exact q_rm

end Saw
end Go.SL

namespace Go.SL
namespace Saw
open Go.Proofs
set_option maxHeartbeats 4000000

def solid_valid_x (r : (List Slice)) : V := vc (tl e_Slice default r)

def solid_valid_o (r : (List Slice)) : List (Nat × (Nat × O)) := []

set_option maxRecDepth 100000 in
theorem solid_valid_ok (a1 : List Slice) (r : (List Slice)) (hm : solid_valid a1 = some r) : CtX Tryd.prog globs 33 0 0 [.one (tl e_Slice default a1)] [] (solid_valid_x r) (solid_valid_o r) := by
 unfold solid_valid at hm
 refine q_E Tryd.f33 7 fun E => ?_
 refine q_sq ?_
 refine q_vn [] 0 ⟨[(0, vc (tl e_Slice default a1))], []⟩ ?_
 refine q_sq ?_
 refine q_sq ?_
 obtain ⟨v2, h3, hm⟩ := bind_s hm
 refine q_vu [qc 1 [3] 0 (solid_Check_ok a1 v2 h3)] 0 [] [(5, vb (v2 != 0))] [] [] ?_
 refine q_cn (v2 != 0) (fun b4 => ?_) (fun b4 => ?_)
 ·replace hm := bif_t b4 hm
  refine q_sq ?_
  refine q_vn [] 0 ⟨[(2, vc (.emp))], []⟩ ?_
  refine q_fn [.own 2 0 54 3 (rf e_Slice ([] : List Slice))] ⟨[(2, vo 0 0 3 0)], [(0, ro 0 54 3 0 (rf e_Slice ([] : List Slice)))]⟩ o0 ?_
  refine q_fn [.len 0 (([] : List Slice).length), .frz 0] ⟨[(2, vc (tl e_Slice default ([] : List Slice)))], []⟩ (o1 (And.intro (And.intro (show 0 = ([] : List Slice).length from rfl) (show 0 = ([] : List Slice).length from rfl)) (Nat.le_refl (([] : List Slice).length)))) ?_
  obtain rfl := Option.some.inj hm
  refine q_rt ?_
  exact q_rm
 ·replace hm := bif_f b4 hm
  refine q_sk ?_
  refine q_sq ?_
  refine q_vn [] 0 ⟨[(2, vc (tl e_Slice default a1))], []⟩ ?_
  obtain rfl := Option.some.inj hm
  refine q_rt ?_
  exact q_rm

end Saw
end Go.SL

namespace Go.SL
namespace Saw
open Go.Proofs
set_option maxHeartbeats 4000000

def solid_Length_x (r : Int) : V := vi r

def solid_Length_o (r : Int) : List (Nat × (Nat × O)) := []

theorem solid_Length_f (r : Int) : Frozen (solid_Length_o r) := by
 intro i k o h
 unfold solid_Length_o at h
 cases h

def solid_Length_L1_S (v2 : (List Slice)) (x4 : Int) (x5 : Int) : St :=
 ⟨[(3, vi x4), (7, vc (tl e_Slice default v2)), (8, vi ((v2.length : Nat) : Int)), (9, vi x5)], []⟩

def solid_Length_L1_T (x8 : Int) : St :=
 ⟨[(3, vi x8)], []⟩

set_option maxRecDepth 100000 in
theorem solid_Length_L1_ok (E : Env 0) (v2 : (List Slice)) : ∀ (n : Nat) (x4 : Int) (x5 : Int) (res : Int), solid_Length_L1 v2 n x4 x5 = some res → HL (kx E 19 0) (nd Tryd.f18 116) (loopQ0 0 (fun o => solid_Length_L1_T o) res) n (solid_Length_L1_S v2 x4 x5) := by
 intro n
 induction n with
 | zero =>
  intro x4 x5 res hm
  cases hm
 | succ n ih =>
  intro x4 x5 res hm
  refine HL_succ ?_
  refine q_sq ?_
  refine q_vu [] 0 [] [(10, vb (decide (x5 < ((v2.length : Nat) : Int))))] [] [] ?_
  refine q_sq ?_
  refine q_cn (decide (x5 < ((v2.length : Nat) : Int))) (fun b6 => ?_) (fun b6 => ?_)
  ·replace hm := bif_t b6 hm
   refine q_sk ?_
   refine q_sq ?_
   refine q_bk 1 ?_
   refine q_sq ?_
   obtain ⟨g7, hm⟩ := bif_n hm
   refine q_vu [qd 0 (Dir.none) (inb_of g7)] 0 [10] [(5, vp 0 0)] [] [(0, bx 54 [ci ((v2.getD x5.toNat default).Len), ci (((v2.getD x5.toNat default).Sec).Low), tl e_Span default (((v2.getD x5.toNat default).Sec).Rows)])] ?_
   refine q_vu [] 1 [3, 5] [(3, vi (w64 (x4 + ((v2.getD x5.toNat default).Len))))] [0] [] ?_
   refine q_vu [] 1 [9] [(9, vi (w64 (x5 + 1)))] [] [] ?_
   exact q_hl (solid_Length_L1_S v2 (w64 (x4 + ((v2.getD x5.toNat default).Len))) (w64 (x5 + 1))) (ih (w64 (x4 + ((v2.getD x5.toNat default).Len))) (w64 (x5 + 1)) _ hm)
  ·replace hm := bif_f b6 hm
   refine q_ex 0 ?_
   obtain rfl := Option.some.inj hm
   exact L0_mk (by kernel_rfl) (by kernel_rfl)

set_option maxRecDepth 100000 in
theorem solid_Length_ok (a1 : List Slice) (r : Int) (hm : solid_Length a1 = some r) : CtX Tryd.prog globs 18 0 0 [.one (tl e_Slice default a1)] [] (solid_Length_x r) (solid_Length_o r) := by
 unfold solid_Length at hm
 refine q_E Tryd.f18 19 fun E => ?_
 refine q_sq ?_
 refine q_vn [] 0 ⟨[(0, vc (tl e_Slice default a1))], []⟩ ?_
 refine q_sq ?_
 refine q_vu [] 0 [] [(3, vi 0)] [] [] ?_
 refine q_sq ?_
 refine q_sq ?_
 obtain ⟨v2, h3, hm⟩ := bind_s hm
 refine q_vu [qc 1 [6] 0 (solid_valid_ok a1 v2 h3)] 0 [0] [(7, vc (tl e_Slice default v2)), (8, vi ((v2.length : Nat) : Int)), (9, vi 0)] [] [] ?_
 obtain ⟨o9, h10, hm⟩ := bind_s hm
 refine R_loop0 (nd Tryd.f18 116) 0 (by kernel_rfl) FUEL (fun o => solid_Length_L1_T o) o9 (q_hl (solid_Length_L1_S v2 0 0) (solid_Length_L1_ok E v2 FUEL 0 0 o9 h10)) ?_
 refine q_sq ?_
 refine q_vn [] 0 ⟨[(2, vi o9)], []⟩ ?_
 obtain rfl := Option.some.inj hm
 refine q_rt ?_
 exact q_rm

end Saw
end Go.SL

namespace Go.SL
namespace Saw
open Go.Proofs
set_option maxHeartbeats 4000000

def section_heights_x (r : Span) : V := va (e_Span r)

def section_heights_o (r : Span) : List (Nat × (Nat × O)) := []

theorem section_heights_f (r : Span) : Frozen (section_heights_o r) := by
 intro i k o h
 unfold section_heights_o at h
 cases h

set_option maxRecDepth 100000 in
theorem section_heights_ok (a1 : Int) (a2 : Int) (r : Span) (hm : section_heights a1 a2 = some r) : CtX Tryd.prog globs 66 0 0 [.one (ci a1), .one (ci a2)] [] (section_heights_x r) (section_heights_o r) := by
 unfold section_heights at hm
 refine q_E Tryd.f66 10 fun E => ?_
 refine q_sq ?_
 refine q_vn [] 0 ⟨[(0, vi a1), (1, vi a2), (4, vp 0 0)], [(0, bx 33 [ci 0, ci 0])]⟩ ?_
 refine q_sq ?_
 refine q_vu [] 1 [0, 1] [] [0] [(0, bx 33 [ci (w64 (10 * a1)), ci (w64 (10 * a2))])] ?_
 obtain rfl := Option.some.inj hm
 refine q_rt ?_
 exact q_rm

end Saw
end Go.SL
