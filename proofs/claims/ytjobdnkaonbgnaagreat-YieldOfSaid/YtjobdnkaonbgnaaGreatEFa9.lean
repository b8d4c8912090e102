import Derived.Test.YtjobdnkaonbgnaaGreatEBase
import Derived.Test.YtjobdnkaonbgnaaGreatEFa8
set_option linter.unusedVariables false
set_option linter.unusedSimpArgs false
namespace Go.SL
namespace Saw
open Go.Proofs
set_option maxHeartbeats 4000000
set_option maxRecDepth 100000
def XT (a1 : Node) (a2 : Rect) (a3 : List Node) (a4 : List Product) (a5 : Bool) (a6 : Int) (a7 : Int) (a8 : List Leaf) (a9 : List Rect) (r : Int) : V := vi r
def XR (a1 : Node) (a2 : Rect) (a3 : List Node) (a4 : List Product) (a5 : Bool) (a6 : Int) (a7 : Int) (a8 : List Leaf) (a9 : List Rect) (r : Int) : List (Nat × (Nat × O)) := [(0, bx 143 [tl qJ default a3, tl qA default a4, cb a5, ci a6, ci a7, .own 1 0 5 a8.length, .own 2 0 4 a9.length]), (1, ro 0 78 5 a8.length (rf qG a8)), (2, ro 0 28 4 a9.length (rf qE a9))]
def UR (a3 : List Node) (a4 : List Product) (a5 : Bool) (a6 : Int) (a7 : Int) (a8 : List Leaf) (a9 : List Rect) (x12 : Bool) : St :=
 ⟨[(23, vb x12)], [(0, bx 143 [tl qJ default a3, tl qA default a4, cb a5, ci a6, ci a7, .own 1 0 5 a8.length, .own 2 0 4 a9.length]), (1, ro 0 78 5 a8.length (rf qG a8)), (2, ro 0 28 4 a9.length (rf qE a9))]⟩
def UT (a3 : List Node) (a4 : List Product) (a5 : Bool) (a6 : Int) (a7 : Int) (a8 : List Leaf) (a9 : List Rect) (x24 : Bool) : St :=
 ⟨[(80, vb x24)], [(0, bx 143 [tl qJ default a3, tl qA default a4, cb a5, ci a6, ci a7, .own 1 0 5 a8.length, .own 2 0 4 a9.length]), (1, ro 0 78 5 a8.length (rf qG a8)), (2, ro 0 28 4 a9.length (rf qE a9))]⟩
def UL (a1 : Node) (a2 : Rect) (a3 : List Node) (a4 : List Product) (a5 : Bool) (a6 : Int) (a7 : Int) (a8 : List Leaf) (a9 : List Rect) (x15 : Bool) : St :=
 ⟨[(0, vp 0 0), (4, vp 3 0), (5, vp 4 0), (36, vb x15)], [(0, bx 143 [tl qJ default a3, tl qA default a4, cb a5, ci a6, ci a7, .own 1 0 5 a8.length, .own 2 0 4 a9.length]), (1, ro 0 78 5 a8.length (rf qG a8)), (2, ro 0 28 4 a9.length (rf qE a9)), (3, bx 65 (qJ a1)), (4, bx 28 (qE a2))]⟩
theorem BK (a1 : Node) (a2 : Rect) (a3 : List Node) (a4 : List Product) (a5 : Bool) (a6 : Int) (a7 : Int) (a8 : List Leaf) (a9 : List Rect) (r : Int) (hm : wE a1 a2 a3 a4 a5 a6 a7 a8 a9 = some r) : CtX Tryz.prog globs 115 3 1 [.one (.bptr 0 0 0), .agg (qJ a1), .agg (qE a2)] [(0, bx 143 [tl qJ default a3, tl qA default a4, cb a5, ci a6, ci a7, .own 1 0 5 a8.length, .own 2 0 4 a9.length]), (1, ro 0 78 5 a8.length (rf qG a8)), (2, ro 0 28 4 a9.length (rf qE a9))] (XT a1 a2 a3 a4 a5 a6 a7 a8 a9 r) (XR a1 a2 a3 a4 a5 a6 a7 a8 a9 r) := by
 unfold wE at hm
 refine q_E Tryz.f115 81 fun E => ?_
 refine s_vn [] 3 ⟨[(0, vp 0 0), (4, vp 3 0), (5, vp 4 0)], [(0, bx 143 [tl qJ default a3, tl qA default a4, cb a5, ci a6, ci a7, .own 1 0 5 a8.length, .own 2 0 4 a9.length]), (1, ro 0 78 5 a8.length (rf qG a8)), (2, ro 0 28 4 a9.length (rf qE a9)), (3, bx 65 (qJ a1)), (4, bx 28 (qE a2))]⟩ ?_
 refine q_sq ?_
 refine s_vu [] 5 [] [(15, vb (!a5))] [] [] ?_
 refine q_cn (!a5) (fun b10 => ?_) (fun b10 => ?_)
 ·replace hm := qB b10 hm
  refine q_sq ?_
  refine q_jn (ι := Bool) (fun p => UR a3 a4 a5 a6 a7 a8 a9 p) (fun p => QS p = some r) ?_ ?_
  ·rintro x12 hm
   show H _ (UR a3 a4 a5 a6 a7 a8 a9 x12) _ _
   refine q_cn x12 (fun b13 => ?_) (fun b13 => ?_)
   ·replace hm := qB b13 hm
    refine s_vu [] 5 [23] [(6, vi 8)] [] [] ?_
    obtain rfl := oi hm
    refine q_rt ?_
    exact q_rm
   ·replace hm := qC b13 hm
    refine q_sk ?_
    refine s_vu [] 5 [23] [(6, vi 0)] [] [] ?_
    obtain rfl := oi hm
    refine q_rt ?_
    exact q_rm
  ·rcases Bool.eq_false_or_eq_true (decide (a1.At < 0)) with b11 | b11
   ·replace hm := qB b11 hm
    refine q_vu [qf 3 b11] 5 [0, 4, 5, 15] [(23, vb true)] [3, 4] [] ?_
    exact q_J (true) hm
   ·replace hm := qC b11 hm
    refine q_vu [qf 3 b11] 5 [0, 4, 5, 15] [(23, vb (decide (a1.At ≥ 16)))] [3, 4] [] ?_
    exact q_J (decide (a1.At ≥ 16)) hm
 ·replace hm := qC b10 hm
  refine q_sk ?_
  refine q_sq ?_
  refine q_jn (ι := Bool) (fun p => UL a1 a2 a3 a4 a5 a6 a7 a8 a9 p) (fun p => QT a1 a2 a4 p = some r) ?_ ?_
  ·rintro x15 hm
   show H _ (UL a1 a2 a3 a4 a5 a6 a7 a8 a9 x15) _ _
   refine q_cn x15 (fun b16 => ?_) (fun b16 => ?_)
   ·replace hm := qB b16 hm
    refine s_vu [] 5 [0, 4, 5, 36] [(6, vi 8)] [3, 4] [] ?_
    obtain rfl := oi hm
    refine q_rt ?_
    exact q_rm
   ·replace hm := qC b16 hm
    refine q_sk ?_
    obtain ⟨g17, hm⟩ := qM hm
    obtain ⟨v18, h19, hm⟩ := qD hm
    refine s_du [qd 6 (Dir.none) (inb_of g17), qc 8 [45] 5 (NV (a4.getD a1.At.toNat default) v18 h19)] [0, 1, 3, 7, 0, 16, 63, 127, 255, 511, 1023, 1023, 2047, 8191] 5 [0, 4, 36] [(7, vi v18.1), (8, vi v18.2)] [3] [] ?_
    refine s_du [] [0, 1, 3, 0, 8, 24, 63, 0, 128, 384, 0, 1024, 3072, 8064, 127, 32767] 5 [5] [(9, vi (w64 (a2.X.B - a2.X.A))), (10, vi (w64 (a2.Y.B - a2.Y.A)))] [4] [] ?_
    refine q_sq ?_
    refine q_jn (ι := Bool) (fun p => UT a3 a4 a5 a6 a7 a8 a9 p) (fun p => wD p = some r) ?_ ?_
    ·rintro x24 hm
     show H _ (UT a3 a4 a5 a6 a7 a8 a9 x24) _ _
     refine q_cn x24 (fun b25 => ?_) (fun b25 => ?_)
     ·replace hm := qB b25 hm
      refine s_vu [] 5 [80] [(6, vi 0)] [] [] ?_
      obtain rfl := oi hm
      refine q_rt ?_
      exact q_rm
     ·replace hm := qC b25 hm
      refine q_sk ?_
      refine s_vu [] 5 [80] [(6, vi 20)] [] [] ?_
      obtain rfl := oi hm
      refine q_rt ?_
      exact q_rm
    ·rcases Bool.eq_false_or_eq_true ((w64 (a2.X.B - a2.X.A)) == v18.1) with b20 | b20
     ·replace hm := qB b20 hm
      rcases Bool.eq_false_or_eq_true ((w64 (a2.Y.B - a2.Y.A)) == v18.2) with b21 | b21
      ·replace hm := qB b21 hm
       refine q_vu [qf 3 b20, qf 8 b21] 5 [7, 8, 9, 10] [(80, vb true)] [] [] ?_
       exact q_J (true) hm
      ·replace hm := qC b21 hm
       rcases Bool.eq_false_or_eq_true ((w64 (a2.X.B - a2.X.A)) == v18.2) with b22 | b22
       ·replace hm := qB b22 hm
        refine q_vu [qf 3 b20, qf 8 b21, qf 12 b22] 5 [7, 8, 9, 10] [(80, vb ((w64 (a2.Y.B - a2.Y.A)) == v18.1))] [] [] ?_
        exact q_J ((w64 (a2.Y.B - a2.Y.A)) == v18.1) hm
       ·replace hm := qC b22 hm
        refine q_vu [qf 3 b20, qf 8 b21, qf 12 b22] 5 [7, 8, 9, 10] [(80, vb false)] [] [] ?_
        exact q_J (false) hm
     ·replace hm := qC b20 hm
      rcases Bool.eq_false_or_eq_true ((w64 (a2.X.B - a2.X.A)) == v18.2) with b23 | b23
      ·replace hm := qB b23 hm
       refine q_vu [qf 3 b20, qf 12 b23] 5 [7, 8, 9, 10] [(80, vb ((w64 (a2.Y.B - a2.Y.A)) == v18.1))] [] [] ?_
       exact q_J ((w64 (a2.Y.B - a2.Y.A)) == v18.1) hm
      ·replace hm := qC b23 hm
       refine q_vu [qf 3 b20, qf 12 b23] 5 [7, 8, 9, 10] [(80, vb false)] [] [] ?_
       exact q_J (false) hm
  ·rcases Bool.eq_false_or_eq_true (decide (a1.At < 0)) with b14 | b14
   ·replace hm := qB b14 hm
    refine q_du [qf 3 b14] [0, 1, 3, 7, 15, 31, 15, 79, 207, 463, 975, 2047, 4095] 5 [15] [(36, vb true)] [] [] ?_
    exact q_J (true) hm
   ·replace hm := qC b14 hm
    refine q_du [qf 3 b14] [0, 1, 3, 7, 15, 31, 15, 79, 207, 463, 975, 2047, 4095] 5 [15] [(36, vb (decide (a1.At ≥ ((a4.length : Nat) : Int))))] [] [] ?_
    exact q_J (decide (a1.At ≥ ((a4.length : Nat) : Int))) hm
def qLa (r : Span × Span × Span) : V := .tup [.agg (e_Span r.1), .agg (e_Span r.2.1), .agg (e_Span r.2.2)]
def qLR (r : Span × Span × Span) : List (Nat × (Nat × O)) := []
theorem YM (a1 : Span) (a2 : Int) (a3 : Int) (r : Span × Span × Span) (hm : jW a1 a2 a3 = some r) : CtX Tryz.prog globs 116 0 0 [.agg (e_Span a1), .one (ci a2), .one (ci a3)] [] (qLa r) (qLR r) := by
 unfold jW at hm
 refine q_E Tryz.f116 27 fun E => ?_
 refine s_vn [] 0 ⟨[(1, vi a2), (2, vi a3), (3, vp 0 0), (6, vp 1 0), (7, vp 2 0), (8, vp 3 0)], [(0, bx 26 (e_Span a1)), (1, bx 26 [ci 0, ci 0]), (2, bx 26 [ci 0, ci 0]), (3, bx 26 [ci 0, ci 0])]⟩ ?_
 refine s_vu [] 4 [2] [(9, vi (imin (w64 (a2 + a3)) a1.B))] [] [] ?_
 refine s_du [] [0, 1, 0, 7, 0, 0, 48, 0, 0, 256, 896, 15, 2175, 8191] 4 [1, 3, 9] [] [0, 1, 2, 3] [(1, bx 26 [ci a1.A, ci a2]), (2, bx 26 [ci a2, ci (imin (w64 (a2 + a3)) a1.B)]), (3, bx 26 [ci (imin (w64 (a2 + a3)) a1.B), ci a1.B])] ?_
 obtain rfl := oi hm
 refine q_rt ?_
 exact q_rm
def jJ (a1 : Rect) (a2 : Int) (a3 : List Node) (a4 : List Product) (a5 : Bool) (a6 : Int) (a7 : Int) (a8 : List Leaf) (a9 : List Rect) (r : Int × Int × (List Leaf) × (List Rect)) : V := vi r.1
def jI (a1 : Rect) (a2 : Int) (a3 : List Node) (a4 : List Product) (a5 : Bool) (a6 : Int) (a7 : Int) (a8 : List Leaf) (a9 : List Rect) (r : Int × Int × (List Leaf) × (List Rect)) : List (Nat × (Nat × O)) := [(0, bx 143 [tl qJ default a3, tl qA default a4, cb a5, ci a6, ci r.2.1, .own 1 0 5 r.2.2.1.length, .own 2 0 4 r.2.2.2.length]), (1, ro 0 78 5 r.2.2.1.length (rf qG r.2.2.1)), (2, ro 0 28 4 r.2.2.2.length (rf qE r.2.2.2))]
def DK (a2 : Int) (a3 : List Node) (a4 : List Product) (a5 : Bool) (a6 : Int) (a7 : Int) (a8 : List Leaf) (a9 : List Rect) (x35 : Rect) (x36 : Rect) (x37 : Rect) : St :=
 ⟨[(0, vp 0 0), (2, vi a2), (8, vp 5 0), (9, vp 6 0), (10, vp 7 0)], [(0, bx 143 [tl qJ default a3, tl qA default a4, cb a5, ci a6, ci (w64 (a7 + 1)), .own 1 0 5 a8.length, .own 2 0 4 a9.length]), (1, ro 0 78 5 a8.length (rf qG a8)), (2, ro 0 28 4 a9.length (rf qE a9)), (5, bx 28 (qE x37)), (6, bx 28 (qE x36)), (7, bx 28 (qE x35))]⟩
def GQ (a1 : Rect) (a2 : Int) (a3 : List Node) (a4 : List Product) (a5 : Bool) (a6 : Int) (a7 : Int) (a8 : List Leaf) (a9 : List Rect) (x26 : Bool) : St :=
 ⟨[(0, vp 0 0), (2, vi a2), (4, vp 3 0), (7, vp 4 0), (8, vp 5 0), (9, vp 6 0), (10, vp 7 0), (112, vb x26)], [(0, bx 143 [tl qJ default a3, tl qA default a4, cb a5, ci a6, ci (w64 (a7 + 1)), .own 1 0 5 a8.length, .own 2 0 4 a9.length]), (1, ro 0 78 5 a8.length (rf qG a8)), (2, ro 0 28 4 a9.length (rf qE a9)), (3, bx 28 (qE a1)), (4, bx 65 [ci ((a3.getD a7.toNat default).Kind), ci ((a3.getD a7.toNat default).At)]), (5, bx 28 (qE a1)), (6, bx 28 (qE a1)), (7, bx 28 (qE a1))]⟩
def GX (a1 : Rect) (a2 : Int) (a3 : List Node) (a4 : List Product) (a5 : Bool) (a6 : Int) (a7 : Int) (a8 : List Leaf) (a9 : List Rect) (x31 : Bool) : St :=
 ⟨[(0, vp 0 0), (2, vi a2), (4, vp 3 0), (7, vp 4 0), (8, vp 5 0), (9, vp 6 0), (10, vp 7 0), (142, vb x31)], [(0, bx 143 [tl qJ default a3, tl qA default a4, cb a5, ci a6, ci (w64 (a7 + 1)), .own 1 0 5 a8.length, .own 2 0 4 a9.length]), (1, ro 0 78 5 a8.length (rf qG a8)), (2, ro 0 28 4 a9.length (rf qE a9)), (3, bx 28 (qE a1)), (4, bx 65 [ci ((a3.getD a7.toNat default).Kind), ci ((a3.getD a7.toNat default).At)]), (5, bx 28 (qE a1)), (6, bx 28 (qE a1)), (7, bx 28 (qE a1))]⟩
def GI (a1 : Rect) (a2 : Int) (a3 : List Node) (a4 : List Product) (a5 : Bool) (a6 : Int) (a7 : Int) (a8 : List Leaf) (a9 : List Rect) (x15 : Bool) : St :=
 ⟨[(0, vp 0 0), (2, vi a2), (4, vp 3 0), (7, vp 4 0), (56, vb x15)], [(0, bx 143 [tl qJ default a3, tl qA default a4, cb a5, ci a6, ci (w64 (a7 + 1)), .own 1 0 5 a8.length, .own 2 0 4 a9.length]), (1, ro 0 78 5 a8.length (rf qG a8)), (2, ro 0 28 4 a9.length (rf qE a9)), (3, bx 28 (qE a1)), (4, bx 65 [ci ((a3.getD a7.toNat default).Kind), ci ((a3.getD a7.toNat default).At)])]⟩
theorem qAJ : ∀ (n : Nat) (a1 : Rect) (a2 : Int) (a3 : List Node) (a4 : List Product) (a5 : Bool) (a6 : Int) (a7 : Int) (a8 : List Leaf) (a9 : List Rect) (r : Int × Int × (List Leaf) × (List Rect)) (hm : qP n a1 a2 a3 a4 a5 a6 a7 a8 a9 = some r), CtX Tryz.prog globs 76 3 1 [.one (.bptr 0 0 0), .agg (qE a1), .one (ci a2)] [(0, bx 143 [tl qJ default a3, tl qA default a4, cb a5, ci a6, ci a7, .own 1 0 5 a8.length, .own 2 0 4 a9.length]), (1, ro 0 78 5 a8.length (rf qG a8)), (2, ro 0 28 4 a9.length (rf qE a9))] (jJ a1 a2 a3 a4 a5 a6 a7 a8 a9 r) (jI a1 a2 a3 a4 a5 a6 a7 a8 a9 r) := by
 intro n
 induction n with
 | zero =>
  intro a1 a2 a3 a4 a5 a6 a7 a8 a9 r hm
  cases hm
 | succ n ih =>
  intro a1 a2 a3 a4 a5 a6 a7 a8 a9 r hm
  refine q_E Tryz.f76 182 fun E => ?_
  refine s_vn [] 3 ⟨[(0, vp 0 0), (2, vi a2), (4, vp 3 0)], [(0, bx 143 [tl qJ default a3, tl qA default a4, cb a5, ci a6, ci a7, .own 1 0 5 a8.length, .own 2 0 4 a9.length]), (1, ro 0 78 5 a8.length (rf qG a8)), (2, ro 0 28 4 a9.length (rf qE a9)), (3, bx 28 (qE a1))]⟩ ?_
  refine q_sq ?_
  refine s_du [] [0, 1, 3, 7, 0, 16, 48, 112, 240, 511] 4 [] [(21, vb (decide (a7 ≥ ((a3.length : Nat) : Int))))] [] [] ?_
  refine q_cn (decide (a7 ≥ ((a3.length : Nat) : Int))) (fun b10 => ?_) (fun b10 => ?_)
  ·replace hm := qB b10 hm
   refine s_vu [] 4 [0, 2, 4, 21] [(6, vi 3)] [3] [] ?_
   obtain rfl := oi hm
   refine q_rt ?_
   exact q_rm
  ·replace hm := qC b10 hm
   refine q_sk ?_
   obtain ⟨g11, hm⟩ := qM hm
   refine s_du [qd 8 (Dir.none) (inb_of g11)] [0, 1, 3, 7, 0, 16, 48, 112, 255, 511, 0, 2047] 4 [21] [(7, vp 4 0)] [] [(4, bx 65 [ci ((a3.getD a7.toNat default).Kind), ci ((a3.getD a7.toNat default).At)])] ?_
   refine s_vu [] 5 [] [] [0] [(0, bx 143 [tl qJ default a3, tl qA default a4, cb a5, ci a6, ci (w64 (a7 + 1)), .own 1 0 5 a8.length, .own 2 0 4 a9.length])] ?_
   refine q_sq ?_
   refine q_jn (ι := Bool) (fun p => GI a1 a2 a3 a4 a5 a6 a7 a8 a9 p) (fun p => yO a1 a2 a3 a4 a5 a6 a7 a8 a9 (qP n) p = some r) ?_ ?_
   ·rintro x15 hm
    show H _ (GI a1 a2 a3 a4 a5 a6 a7 a8 a9 x15) _ _
    refine q_cn x15 (fun b16 => ?_) (fun b16 => ?_)
    ·replace hm := qB b16 hm
     refine s_vu [] 5 [0, 2, 4, 7, 56] [(6, vi 10)] [3, 4] [] ?_
     obtain rfl := oi hm
     refine q_rt ?_
     exact q_rm
    ·replace hm := qC b16 hm
     refine q_sk ?_
     refine q_sq ?_
     refine s_vu [] 5 [56] [(58, vb (decide (a2 > 64)))] [] [] ?_
     refine q_cn (decide (a2 > 64)) (fun b17 => ?_) (fun b17 => ?_)
     ·replace hm := qB b17 hm
      refine s_vu [] 5 [0, 2, 4, 7, 58] [(6, vi 28)] [3, 4] [] ?_
      obtain rfl := oi hm
      refine q_rt ?_
      exact q_rm
     ·replace hm := qC b17 hm
      refine q_sk ?_
      refine q_sq ?_
      refine s_vu [] 5 [58] [(60, vi ((a3.getD a7.toNat default).Kind))] [] [] ?_
      refine q_bk 0 ?_
      refine s_vu [] 5 [] [(61, vb (((a3.getD a7.toNat default).Kind) == 0))] [] [] ?_
      refine q_cn (((a3.getD a7.toNat default).Kind) == 0) (fun b18 => ?_) (fun b18 => ?_)
      ·replace hm := qB b18 hm
       obtain ⟨g19, hm⟩ := qM hm
       refine s_du [qd 7 (drw 5 0 (rf qG ([(Leaf.mk a1 (-1))] : List Leaf))) (litP qG default 5 (fun _ => rfl) ([(Leaf.mk a1 (-1))] : List Leaf) 1 rfl), qd 8 (drw 1 1 (rf qG (a8 ++ ([(Leaf.mk a1 (-1))] : List Leaf)))) (apP qG default a8 ([(Leaf.mk a1 (-1))] : List Leaf) a8.length 1 5 40 (1 ≤ 1) (Nat.le_refl _) rfl rfl (fun _ => rfl) (wV g19))] [0, 0, 2, 6, 14, 0, 32, 96, 254, 511, 1023, 2047] 5 [0, 2, 4, 7, 60, 61] [] [0, 1, 3, 4] [(0, bx 143 [tl qJ default a3, tl qA default a4, cb a5, ci a6, ci (w64 (a7 + 1)), .own 1 1 5 (a8.length + 1), .own 2 0 4 a9.length]), (1, ro 1 78 5 (a8.length + 1) (rf qG (a8 ++ ([(Leaf.mk a1 (-1))] : List Leaf))))] ?_
       refine s_vu [] 6 [] [(6, vi 0)] [] [] ?_
       refine q_fn [.len 1 ((a8 ++ ([(Leaf.mk a1 (-1))] : List Leaf)).length)] ⟨[(6, vi 0)], [(0, bx 143 [tl qJ default a3, tl qA default a4, cb a5, ci a6, ci (w64 (a7 + 1)), .own 1 1 5 ((a8 ++ ([(Leaf.mk a1 (-1))] : List Leaf)).length), .own 2 0 4 a9.length]), (1, ro 1 78 5 ((a8 ++ ([(Leaf.mk a1 (-1))] : List Leaf)).length) (rf qG (a8 ++ ([(Leaf.mk a1 (-1))] : List Leaf)))), (2, ro 0 28 4 a9.length (rf qE a9))]⟩ (o1 (And.intro (Eq.symm (show (a8 ++ ([(Leaf.mk a1 (-1))] : List Leaf)).length = (a8.length + 1) from (len_app rfl rfl))) (Eq.symm (show (a8 ++ ([(Leaf.mk a1 (-1))] : List Leaf)).length = (a8.length + 1) from (len_app rfl rfl))))) ?_
       obtain rfl := oi hm
       refine q_rt ?_
       exact q_rm
      ·replace hm := qC b18 hm
       refine s_vu [] 5 [60, 61] [(74, vb (((a3.getD a7.toNat default).Kind) == 1))] [] [] ?_
       refine q_cn (((a3.getD a7.toNat default).Kind) == 1) (fun b20 => ?_) (fun b20 => ?_)
       ·replace hm := qB b20 hm
        obtain ⟨g21, hm⟩ := qM hm
        refine s_du [qd 9 (drw 5 0 (rf qG ([(Leaf.mk a1 ((a3.getD a7.toNat default).At))] : List Leaf))) (litP qG default 5 (fun _ => rfl) ([(Leaf.mk a1 ((a3.getD a7.toNat default).At))] : List Leaf) 1 rfl), qd 10 (drw 1 1 (rf qG (a8 ++ ([(Leaf.mk a1 ((a3.getD a7.toNat default).At))] : List Leaf)))) (apP qG default a8 ([(Leaf.mk a1 ((a3.getD a7.toNat default).At))] : List Leaf) a8.length 1 5 40 (1 ≤ 1) (Nat.le_refl _) rfl rfl (fun _ => rfl) (wV g21))] [0, 0, 2, 6, 14, 0, 0, 64, 224, 480, 1022, 2047, 4095, 8191] 5 [2, 74] [] [0, 1] [(0, bx 143 [tl qJ default a3, tl qA default a4, cb a5, ci a6, ci (w64 (a7 + 1)), .own 1 1 5 (a8.length + 1), .own 2 0 4 a9.length]), (1, ro 1 78 5 (a8.length + 1) (rf qG (a8 ++ ([(Leaf.mk a1 ((a3.getD a7.toNat default).At))] : List Leaf))))] ?_
        obtain ⟨v22, h23, hm⟩ := qD hm
        refine s_vn [qd 3 (dpr [.len 1 ((a8 ++ ([(Leaf.mk a1 ((a3.getD a7.toNat default).At))] : List Leaf)).length)] (dex (cen [(0, 0), (1, 1), (2, 0)] [0, 2, 1] 3 1 (XT (a3.getD a7.toNat default) a1 a3 a4 a5 a6 (w64 (a7 + 1)) (a8 ++ ([(Leaf.mk a1 ((a3.getD a7.toNat default).At))] : List Leaf)) a9 v22) (XR (a3.getD a7.toNat default) a1 a3 a4 a5 a6 (w64 (a7 + 1)) (a8 ++ ([(Leaf.mk a1 ((a3.getD a7.toNat default).At))] : List Leaf)) a9 v22) [89, 90, 91] [0, 1, 2]))) (And.intro (Eq.symm (show (a8 ++ ([(Leaf.mk a1 ((a3.getD a7.toNat default).At))] : List Leaf)).length = (a8.length + 1) from (len_app rfl rfl))) (Eq.symm (show (a8 ++ ([(Leaf.mk a1 ((a3.getD a7.toNat default).At))] : List Leaf)).length = (a8.length + 1) from (len_app rfl rfl)))), qd 3 (Dir.none) (ZC (K := (kx E 182 1)) ⟨[(89, vp 0 0), (90, va [ci ((a3.getD a7.toNat default).Kind), ci ((a3.getD a7.toNat default).At)]), (91, va (qE a1))], [(0, bx 143 [tl qJ default a3, tl qA default a4, cb a5, ci a6, ci (w64 (a7 + 1)), .own 1 1 5 ((a8 ++ ([(Leaf.mk a1 ((a3.getD a7.toNat default).At))] : List Leaf)).length), .own 2 0 4 a9.length]), (1, ro 1 78 5 ((a8 ++ ([(Leaf.mk a1 ((a3.getD a7.toNat default).At))] : List Leaf)).length) (rf qG (a8 ++ ([(Leaf.mk a1 ((a3.getD a7.toNat default).At))] : List Leaf)))), (2, ro 0 28 4 a9.length (rf qE a9))]⟩ (opAt (rg Tryz.f76 65210) 3) [(0, 0), (1, 1), (2, 0)] [0, 2, 1] 3 o0 rfl (BK (a3.getD a7.toNat default) a1 a3 a4 a5 a6 (w64 (a7 + 1)) (a8 ++ ([(Leaf.mk a1 ((a3.getD a7.toNat default).At))] : List Leaf)) a9 v22 h23) (.inl rfl) (by kernel_rfl))] 6 ⟨[(6, vi v22)], [(0, bx 143 [tl qJ default a3, tl qA default a4, cb a5, ci a6, ci (w64 (a7 + 1)), .own 1 2 5 ((a8 ++ ([(Leaf.mk a1 ((a3.getD a7.toNat default).At))] : List Leaf)).length), .own 2 1 4 a9.length]), (1, ro 2 78 5 ((a8 ++ ([(Leaf.mk a1 ((a3.getD a7.toNat default).At))] : List Leaf)).length) (rf qG (a8 ++ ([(Leaf.mk a1 ((a3.getD a7.toNat default).At))] : List Leaf)))), (2, ro 1 28 4 a9.length (rf qE a9))]⟩ ?_
        obtain rfl := oi hm
        refine q_rt ?_
        exact q_rm
       ·replace hm := qC b20 hm
        refine q_sk ?_
        refine s_du [] [0, 0, 0, 0, 0, 0, 57, 123, 255] 5 [74] [(8, vp 5 0), (9, vp 6 0), (10, vp 7 0)] [] [(5, bx 28 (qE a1)), (6, bx 28 (qE a1)), (7, bx 28 (qE a1))] ?_
        refine q_jn (ι := Rect × Rect × Rect) (fun p => DK a2 a3 a4 a5 a6 a7 a8 a9 p.1 p.2.1 p.2.2) (fun p => XU a2 a3 a4 a5 a6 a7 a8 a9 (qP n) p.1 p.2.1 p.2.2 = some r) ?_ ?_
        ·rintro ⟨x35, x36, x37⟩ hm
         show H _ (DK a2 a3 a4 a5 a6 a7 a8 a9 x35 x36 x37) _ _
         obtain ⟨g38, hm⟩ := qM hm
         refine s_du [qd 6 (drw 8 0 (rf qE ([x36] : List Rect))) (litP qE default 4 (fun _ => rfl) ([x36] : List Rect) 1 rfl), qd 7 (drw 2 1 (rf qE (a9 ++ ([x36] : List Rect)))) (apP qE default a9 ([x36] : List Rect) a9.length 1 4 32 (1 ≤ 1) (Nat.le_refl _) rfl rfl (fun _ => rfl) (wV g38))] [0, 0, 2, 6, 14, 0, 32, 126, 255, 511, 1023] 8 [9] [] [0, 2, 6] [(0, bx 143 [tl qJ default a3, tl qA default a4, cb a5, ci a6, ci (w64 (a7 + 1)), .own 1 0 5 a8.length, .own 2 1 4 (a9.length + 1)]), (2, ro 1 28 4 (a9.length + 1) (rf qE (a9 ++ ([x36] : List Rect))))] ?_
         refine q_sq ?_
         obtain ⟨v39, h40, hm⟩ := qD hm
         refine s_vu [qd 4 (dpr [.len 2 ((a9 ++ ([x36] : List Rect)).length)] (dex (cen [(0, 0), (1, 0), (2, 1)] [0, 1, 2] 6 1 (jJ x37 (w64 (a2 + 1)) a3 a4 a5 a6 (w64 (a7 + 1)) a8 (a9 ++ ([x36] : List Rect)) v39) (jI x37 (w64 (a2 + 1)) a3 a4 a5 a6 (w64 (a7 + 1)) a8 (a9 ++ ([x36] : List Rect)) v39) [169, 170, 172] [0, 1, 2]))) (And.intro (Eq.symm (show (a9 ++ ([x36] : List Rect)).length = (a9.length + 1) from (len_app rfl rfl))) (Eq.symm (show (a9 ++ ([x36] : List Rect)).length = (a9.length + 1) from (len_app rfl rfl)))), qd 4 (Dir.none) (ZC (K := (kx E 182 1)) ⟨[(169, vp 0 0), (170, va (qE x37)), (172, vi (w64 (a2 + 1)))], [(0, bx 143 [tl qJ default a3, tl qA default a4, cb a5, ci a6, ci (w64 (a7 + 1)), .own 1 0 5 a8.length, .own 2 1 4 ((a9 ++ ([x36] : List Rect)).length)]), (1, ro 0 78 5 a8.length (rf qG a8)), (2, ro 1 28 4 ((a9 ++ ([x36] : List Rect)).length) (rf qE (a9 ++ ([x36] : List Rect))))]⟩ (opAt (rg Tryz.f76 8188) 4) [(0, 0), (1, 0), (2, 1)] [0, 1, 2] 6 o0 rfl (ih x37 (w64 (a2 + 1)) a3 a4 a5 a6 (w64 (a7 + 1)) a8 (a9 ++ ([x36] : List Rect)) v39 h40) (.inl rfl) (by kernel_rfl))] 9 [8] [(11, vi v39.1)] [0, 1, 2, 5] [(0, bx 143 [tl qJ default a3, tl qA default a4, cb a5, ci a6, ci v39.2.1, .own 1 1 5 v39.2.2.1.length, .own 2 2 4 v39.2.2.2.length]), (1, ro 1 78 5 v39.2.2.1.length (rf qG v39.2.2.1)), (2, ro 2 28 4 v39.2.2.2.length (rf qE v39.2.2.2))] ?_
         refine s_vu [] 9 [] [(175, vb (v39.1 != 0))] [] [] ?_
         refine q_cn (v39.1 != 0) (fun b41 => ?_) (fun b41 => ?_)
         ·replace hm := qB b41 hm
          refine s_vu [] 9 [0, 2, 10, 11, 175] [(6, vi v39.1)] [7] [] ?_
          obtain rfl := oi hm
          refine q_rt ?_
          exact q_rm
         ·replace hm := qC b41 hm
          refine q_sk ?_
          obtain ⟨v42, h43, hm⟩ := qD hm
          refine s_vn [qd 4 (dex (cen [(0, 0), (1, 1), (2, 2)] [0, 2, 3] 6 1 (jJ x35 (w64 (a2 + 1)) a3 a4 a5 a6 v39.2.1 v39.2.2.1 v39.2.2.2 v42) (jI x35 (w64 (a2 + 1)) a3 a4 a5 a6 v39.2.1 v39.2.2.1 v39.2.2.2 v42) [177, 178, 180] [0, 1, 2])) (ZC (K := (kx E 182 1)) ⟨[(177, vp 0 0), (178, va (qE x35)), (180, vi (w64 (a2 + 1)))], [(0, bx 143 [tl qJ default a3, tl qA default a4, cb a5, ci a6, ci v39.2.1, .own 1 1 5 v39.2.2.1.length, .own 2 2 4 v39.2.2.2.length]), (1, ro 1 78 5 v39.2.2.1.length (rf qG v39.2.2.1)), (2, ro 2 28 4 v39.2.2.2.length (rf qE v39.2.2.2))]⟩ (opAt (rg Tryz.f76 8190) 4) [(0, 0), (1, 1), (2, 2)] [0, 2, 3] 6 o0 rfl (ih x35 (w64 (a2 + 1)) a3 a4 a5 a6 v39.2.1 v39.2.2.1 v39.2.2.2 v42 h43) (.inl rfl) (by kernel_rfl))] 9 ⟨[(6, vi v42.1)], [(0, bx 143 [tl qJ default a3, tl qA default a4, cb a5, ci a6, ci v42.2.1, .own 1 2 5 v42.2.2.1.length, .own 2 3 4 v42.2.2.2.length]), (1, ro 2 78 5 v42.2.2.1.length (rf qG v42.2.2.1)), (2, ro 3 28 4 v42.2.2.2.length (rf qE v42.2.2.2))]⟩ ?_
          obtain rfl := oi hm
          refine q_rt ?_
          exact q_rm
        ·refine s_vu [] 8 [] [(98, vb (((a3.getD a7.toNat default).Kind) == 2))] [] [] ?_
         refine q_cn (((a3.getD a7.toNat default).Kind) == 2) (fun b24 => ?_) (fun b24 => ?_)
         ·replace hm := qB b24 hm
          refine q_sq ?_
          refine q_jn (ι := Bool) (fun p => GQ a1 a2 a3 a4 a5 a6 a7 a8 a9 p) (fun p => XO a1 a2 a3 a4 a5 a6 a7 a8 a9 (qP n) p = some r) ?_ ?_
          ·rintro x26 hm
           show H _ (GQ a1 a2 a3 a4 a5 a6 a7 a8 a9 x26) _ _
           refine q_cn x26 (fun b27 => ?_) (fun b27 => ?_)
           ·replace hm := qB b27 hm
            refine s_vu [] 8 [0, 2, 4, 7, 8, 9, 10, 112] [(6, vi 20)] [3, 4, 5, 6, 7] [] ?_
            obtain rfl := oi hm
            refine q_rt ?_
            exact q_rm
           ·replace hm := qC b27 hm
            refine q_sk ?_
            obtain ⟨v28, h29, hm⟩ := qD hm
            refine q_du [qc 8 [115, 117, 121] 8 (YM a1.X ((a3.getD a7.toNat default).At) a6 v28 h29)] [0, 1, 0, 4, 0, 16, 48, 112, 255, 511, 1023, 1023, 1023, 2047, 10239, 28671, 61439, 131071, 262143] 8 [4, 7, 112] [] [3, 4, 5, 6, 7] [(5, bx 28 [ci v28.1.A, ci v28.1.B, ci a1.Y.A, ci a1.Y.B]), (6, bx 28 [ci v28.2.1.A, ci v28.2.1.B, ci a1.Y.A, ci a1.Y.B]), (7, bx 28 [ci v28.2.2.A, ci v28.2.2.B, ci a1.Y.A, ci a1.Y.B])] ?_
            exact q_J ((Rect.mk v28.2.2 a1.Y), (Rect.mk v28.2.1 a1.Y), (Rect.mk v28.1 a1.Y)) hm
          ·rcases Bool.eq_false_or_eq_true (decide (((a3.getD a7.toNat default).At) ≤ a1.X.A)) with b25 | b25
           ·replace hm := qB b25 hm
            refine q_vu [qf 6 b25] 8 [98] [(112, vb true)] [] [] ?_
            exact q_J (true) hm
           ·replace hm := qC b25 hm
            refine q_vu [qf 6 b25] 8 [98] [(112, vb (decide (((a3.getD a7.toNat default).At) ≥ a1.X.B)))] [] [] ?_
            exact q_J (decide (((a3.getD a7.toNat default).At) ≥ a1.X.B)) hm
         ·replace hm := qC b24 hm
          refine q_sq ?_
          refine q_jn (ι := Bool) (fun p => GX a1 a2 a3 a4 a5 a6 a7 a8 a9 p) (fun p => XX a1 a2 a3 a4 a5 a6 a7 a8 a9 (qP n) p = some r) ?_ ?_
          ·rintro x31 hm
           show H _ (GX a1 a2 a3 a4 a5 a6 a7 a8 a9 x31) _ _
           refine q_cn x31 (fun b32 => ?_) (fun b32 => ?_)
           ·replace hm := qB b32 hm
            refine s_vu [] 8 [0, 2, 4, 7, 8, 9, 10, 142] [(6, vi 20)] [3, 4, 5, 6, 7] [] ?_
            obtain rfl := oi hm
            refine q_rt ?_
            exact q_rm
           ·replace hm := qC b32 hm
            refine q_sk ?_
            obtain ⟨v33, h34, hm⟩ := qD hm
            refine q_du [qc 8 [145, 147, 151] 8 (YM a1.Y ((a3.getD a7.toNat default).At) a6 v33 h34)] [0, 1, 0, 4, 0, 16, 48, 112, 255, 511, 1023, 1023, 1023, 2047, 10239, 28671, 61439, 131071, 262143] 8 [4, 7, 142] [] [3, 4, 5, 6, 7] [(5, bx 28 [ci a1.X.A, ci a1.X.B, ci v33.1.A, ci v33.1.B]), (6, bx 28 [ci a1.X.A, ci a1.X.B, ci v33.2.1.A, ci v33.2.1.B]), (7, bx 28 [ci a1.X.A, ci a1.X.B, ci v33.2.2.A, ci v33.2.2.B])] ?_
            exact q_J ((Rect.mk a1.X v33.2.2), (Rect.mk a1.X v33.2.1), (Rect.mk a1.X v33.1)) hm
          ·rcases Bool.eq_false_or_eq_true (decide (((a3.getD a7.toNat default).At) ≤ a1.Y.A)) with b30 | b30
           ·replace hm := qB b30 hm
            refine q_vu [qf 6 b30] 8 [98] [(142, vb true)] [] [] ?_
            exact q_J (true) hm
           ·replace hm := qC b30 hm
            refine q_vu [qf 6 b30] 8 [98] [(142, vb (decide (((a3.getD a7.toNat default).At) ≥ a1.Y.B)))] [] [] ?_
            exact q_J (decide (((a3.getD a7.toNat default).At) ≥ a1.Y.B)) hm
   ·rcases Bool.eq_false_or_eq_true (decide (((a3.getD a7.toNat default).Kind) < 0)) with b12 | b12
    ·replace hm := qB b12 hm
     refine q_vu [qf 3 b12] 5 [] [(56, vb true)] [] [] ?_
     exact q_J (true) hm
    ·replace hm := qC b12 hm
     rcases Bool.eq_false_or_eq_true (decide (((a3.getD a7.toNat default).Kind) > 3)) with b13 | b13
     ·replace hm := qB b13 hm
      refine q_vu [qf 3 b12, qf 8 b13] 5 [] [(56, vb true)] [] [] ?_
      exact q_J (true) hm
     ·replace hm := qC b13 hm
      rcases Bool.eq_false_or_eq_true (((a3.getD a7.toNat default).Kind) == 0) with b14 | b14
      ·replace hm := qB b14 hm
       refine q_vu [qf 3 b12, qf 8 b13, qf 12 b14] 5 [] [(56, vb (((a3.getD a7.toNat default).At) != 0))] [] [] ?_
       exact q_J (((a3.getD a7.toNat default).At) != 0) hm
      ·replace hm := qC b14 hm
       refine q_vu [qf 3 b12, qf 8 b13, qf 12 b14] 5 [] [(56, vb false)] [] [] ?_
       exact q_J (false) hm
theorem FP (a1 : Rect) (a2 : Int) (a3 : List Node) (a4 : List Product) (a5 : Bool) (a6 : Int) (a7 : Int) (a8 : List Leaf) (a9 : List Rect) (r : Int × Int × (List Leaf) × (List Rect)) (hm : TQ a1 a2 a3 a4 a5 a6 a7 a8 a9 = some r) : CtX Tryz.prog globs 76 3 1 [.one (.bptr 0 0 0), .agg (qE a1), .one (ci a2)] [(0, bx 143 [tl qJ default a3, tl qA default a4, cb a5, ci a6, ci a7, .own 1 0 5 a8.length, .own 2 0 4 a9.length]), (1, ro 0 78 5 a8.length (rf qG a8)), (2, ro 0 28 4 a9.length (rf qE a9))] (jJ a1 a2 a3 a4 a5 a6 a7 a8 a9 r) (jI a1 a2 a3 a4 a5 a6 a7 a8 a9 r) := by
 exact qAJ FUEL a1 a2 a3 a4 a5 a6 a7 a8 a9 r hm
def WU (a1 : Rect) (a2 : Int) (a3 : List Node) (a4 : List Product) (a5 : Bool) (a6 : Int) (a7 : Int) (a8 : List Rect) (r : Int × Int × (List Leaf) × (List Rect)) : V := vi r.1
def WL (a1 : Rect) (a2 : Int) (a3 : List Node) (a4 : List Product) (a5 : Bool) (a6 : Int) (a7 : Int) (a8 : List Rect) (r : Int × Int × (List Leaf) × (List Rect)) : List (Nat × (Nat × O)) := [(0, bx 143 [tl qJ default a3, tl qA default a4, cb a5, ci a6, ci r.2.1, .own 2 0 5 r.2.2.1.length, .own 1 0 4 r.2.2.2.length]), (1, ro 0 28 4 r.2.2.2.length (rf qE r.2.2.2)), (2, ro 0 78 5 r.2.2.1.length (rf qG r.2.2.1))]
def GM (a2 : Int) (a3 : List Node) (a4 : List Product) (a5 : Bool) (a6 : Int) (a7 : Int) (a8 : List Rect) (x34 : Rect) (x35 : Rect) (x36 : Rect) : St :=
 ⟨[(0, vp 0 0), (2, vi a2), (8, vp 4 0), (9, vp 5 0), (10, vp 6 0)], [(0, bx 143 [tl qJ default a3, tl qA default a4, cb a5, ci a6, ci (w64 (a7 + 1)), .emp, .own 1 0 4 a8.length]), (1, ro 0 28 4 a8.length (rf qE a8)), (4, bx 28 (qE x36)), (5, bx 28 (qE x35)), (6, bx 28 (qE x34))]⟩
def DM (a1 : Rect) (a2 : Int) (a3 : List Node) (a4 : List Product) (a5 : Bool) (a6 : Int) (a7 : Int) (a8 : List Rect) (x25 : Bool) : St :=
 ⟨[(0, vp 0 0), (2, vi a2), (4, vp 2 0), (7, vp 3 0), (8, vp 4 0), (9, vp 5 0), (10, vp 6 0), (112, vb x25)], [(0, bx 143 [tl qJ default a3, tl qA default a4, cb a5, ci a6, ci (w64 (a7 + 1)), .emp, .own 1 0 4 a8.length]), (1, ro 0 28 4 a8.length (rf qE a8)), (2, bx 28 (qE a1)), (3, bx 65 [ci ((a3.getD a7.toNat default).Kind), ci ((a3.getD a7.toNat default).At)]), (4, bx 28 (qE a1)), (5, bx 28 (qE a1)), (6, bx 28 (qE a1))]⟩
def DH (a1 : Rect) (a2 : Int) (a3 : List Node) (a4 : List Product) (a5 : Bool) (a6 : Int) (a7 : Int) (a8 : List Rect) (x30 : Bool) : St :=
 ⟨[(0, vp 0 0), (2, vi a2), (4, vp 2 0), (7, vp 3 0), (8, vp 4 0), (9, vp 5 0), (10, vp 6 0), (142, vb x30)], [(0, bx 143 [tl qJ default a3, tl qA default a4, cb a5, ci a6, ci (w64 (a7 + 1)), .emp, .own 1 0 4 a8.length]), (1, ro 0 28 4 a8.length (rf qE a8)), (2, bx 28 (qE a1)), (3, bx 65 [ci ((a3.getD a7.toNat default).Kind), ci ((a3.getD a7.toNat default).At)]), (4, bx 28 (qE a1)), (5, bx 28 (qE a1)), (6, bx 28 (qE a1))]⟩
def GO (a1 : Rect) (a2 : Int) (a3 : List Node) (a4 : List Product) (a5 : Bool) (a6 : Int) (a7 : Int) (a8 : List Rect) (x14 : Bool) : St :=
 ⟨[(0, vp 0 0), (2, vi a2), (4, vp 2 0), (7, vp 3 0), (56, vb x14)], [(0, bx 143 [tl qJ default a3, tl qA default a4, cb a5, ci a6, ci (w64 (a7 + 1)), .emp, .own 1 0 4 a8.length]), (1, ro 0 28 4 a8.length (rf qE a8)), (2, bx 28 (qE a1)), (3, bx 65 [ci ((a3.getD a7.toNat default).Kind), ci ((a3.getD a7.toNat default).At)])]⟩
theorem qAY : ∀ (n : Nat) (a1 : Rect) (a2 : Int) (a3 : List Node) (a4 : List Product) (a5 : Bool) (a6 : Int) (a7 : Int) (a8 : List Rect) (r : Int × Int × (List Leaf) × (List Rect)) (hm : qY n a1 a2 a3 a4 a5 a6 a7 a8 = some r), CtX Tryz.prog globs 76 2 1 [.one (.bptr 0 0 0), .agg (qE a1), .one (ci a2)] [(0, bx 143 [tl qJ default a3, tl qA default a4, cb a5, ci a6, ci a7, .emp, .own 1 0 4 a8.length]), (1, ro 0 28 4 a8.length (rf qE a8))] (WU a1 a2 a3 a4 a5 a6 a7 a8 r) (WL a1 a2 a3 a4 a5 a6 a7 a8 r) := by
 intro n
 induction n with
 | zero =>
  intro a1 a2 a3 a4 a5 a6 a7 a8 r hm
  cases hm
 | succ n ih =>
  intro a1 a2 a3 a4 a5 a6 a7 a8 r hm
  refine q_E Tryz.f76 182 fun E => ?_
  refine s_vn [] 2 ⟨[(0, vp 0 0), (2, vi a2), (4, vp 2 0)], [(0, bx 143 [tl qJ default a3, tl qA default a4, cb a5, ci a6, ci a7, .emp, .own 1 0 4 a8.length]), (1, ro 0 28 4 a8.length (rf qE a8)), (2, bx 28 (qE a1))]⟩ ?_
  refine q_sq ?_
  refine s_du [] [0, 1, 3, 7, 0, 16, 48, 112, 240, 511] 3 [] [(21, vb (decide (a7 ≥ ((a3.length : Nat) : Int))))] [] [] ?_
  refine q_cn (decide (a7 ≥ ((a3.length : Nat) : Int))) (fun b9 => ?_) (fun b9 => ?_)
  ·replace hm := qB b9 hm
   refine s_vu [] 3 [0, 2, 4, 21] [(6, vi 3)] [2] [] ?_
   refine q_fn [.ownB 0 5 3 78 5 (rf qG ([] : List Leaf))] ⟨[(6, vi 3)], [(0, bx 143 [tl qJ default a3, tl qA default a4, cb a5, ci a6, ci a7, .own 3 0 5 0, .own 1 0 4 a8.length]), (1, ro 0 28 4 a8.length (rf qE a8)), (3, ro 0 78 5 0 (rf qG ([] : List Leaf)))]⟩ o0 ?_
   refine q_fn [.len 3 (([] : List Leaf).length)] ⟨[(6, vi 3)], [(0, bx 143 [tl qJ default a3, tl qA default a4, cb a5, ci a6, ci a7, .own 3 0 5 (([] : List Leaf).length), .own 1 0 4 a8.length]), (1, ro 0 28 4 a8.length (rf qE a8)), (3, ro 0 78 5 (([] : List Leaf).length) (rf qG ([] : List Leaf)))]⟩ (o1 (And.intro (show 0 = ([] : List Leaf).length from rfl) (show 0 = ([] : List Leaf).length from rfl))) ?_
   obtain rfl := oi hm
   refine qS 3 2 (by kernel_rfl) ?_
   refine q_rt ?_
   exact q_rm
  ·replace hm := qC b9 hm
   refine q_sk ?_
   obtain ⟨g10, hm⟩ := qM hm
   refine s_du [qd 8 (Dir.none) (inb_of g10)] [0, 1, 3, 7, 0, 16, 48, 112, 255, 511, 0, 2047] 3 [21] [(7, vp 3 0)] [] [(3, bx 65 [ci ((a3.getD a7.toNat default).Kind), ci ((a3.getD a7.toNat default).At)])] ?_
   refine s_vu [] 4 [] [] [0] [(0, bx 143 [tl qJ default a3, tl qA default a4, cb a5, ci a6, ci (w64 (a7 + 1)), .emp, .own 1 0 4 a8.length])] ?_
   refine q_sq ?_
   refine q_jn (ι := Bool) (fun p => GO a1 a2 a3 a4 a5 a6 a7 a8 p) (fun p => yN a1 a2 a3 a4 a5 a6 a7 a8 (qY n) p = some r) ?_ ?_
   ·rintro x14 hm
    show H _ (GO a1 a2 a3 a4 a5 a6 a7 a8 x14) _ _
    refine q_cn x14 (fun b15 => ?_) (fun b15 => ?_)
    ·replace hm := qB b15 hm
     refine s_vu [] 4 [0, 2, 4, 7, 56] [(6, vi 10)] [2, 3] [] ?_
     refine q_fn [.ownB 0 5 4 78 5 (rf qG ([] : List Leaf))] ⟨[(6, vi 10)], [(0, bx 143 [tl qJ default a3, tl qA default a4, cb a5, ci a6, ci (w64 (a7 + 1)), .own 4 0 5 0, .own 1 0 4 a8.length]), (1, ro 0 28 4 a8.length (rf qE a8)), (4, ro 0 78 5 0 (rf qG ([] : List Leaf)))]⟩ o0 ?_
     refine q_fn [.len 4 (([] : List Leaf).length)] ⟨[(6, vi 10)], [(0, bx 143 [tl qJ default a3, tl qA default a4, cb a5, ci a6, ci (w64 (a7 + 1)), .own 4 0 5 (([] : List Leaf).length), .own 1 0 4 a8.length]), (1, ro 0 28 4 a8.length (rf qE a8)), (4, ro 0 78 5 (([] : List Leaf).length) (rf qG ([] : List Leaf)))]⟩ (o1 (And.intro (show 0 = ([] : List Leaf).length from rfl) (show 0 = ([] : List Leaf).length from rfl))) ?_
     obtain rfl := oi hm
     refine qS 4 2 (by kernel_rfl) ?_
     refine q_rt ?_
     exact q_rm
    ·replace hm := qC b15 hm
     refine q_sk ?_
     refine q_sq ?_
     refine s_vu [] 4 [56] [(58, vb (decide (a2 > 64)))] [] [] ?_
     refine q_cn (decide (a2 > 64)) (fun b16 => ?_) (fun b16 => ?_)
     ·replace hm := qB b16 hm
      refine s_vu [] 4 [0, 2, 4, 7, 58] [(6, vi 28)] [2, 3] [] ?_
      refine q_fn [.ownB 0 5 4 78 5 (rf qG ([] : List Leaf))] ⟨[(6, vi 28)], [(0, bx 143 [tl qJ default a3, tl qA default a4, cb a5, ci a6, ci (w64 (a7 + 1)), .own 4 0 5 0, .own 1 0 4 a8.length]), (1, ro 0 28 4 a8.length (rf qE a8)), (4, ro 0 78 5 0 (rf qG ([] : List Leaf)))]⟩ o0 ?_
      refine q_fn [.len 4 (([] : List Leaf).length)] ⟨[(6, vi 28)], [(0, bx 143 [tl qJ default a3, tl qA default a4, cb a5, ci a6, ci (w64 (a7 + 1)), .own 4 0 5 (([] : List Leaf).length), .own 1 0 4 a8.length]), (1, ro 0 28 4 a8.length (rf qE a8)), (4, ro 0 78 5 (([] : List Leaf).length) (rf qG ([] : List Leaf)))]⟩ (o1 (And.intro (show 0 = ([] : List Leaf).length from rfl) (show 0 = ([] : List Leaf).length from rfl))) ?_
      obtain rfl := oi hm
      refine qS 4 2 (by kernel_rfl) ?_
      refine q_rt ?_
      exact q_rm
     ·replace hm := qC b16 hm
      refine q_sk ?_
      refine q_sq ?_
      refine s_vu [] 4 [58] [(60, vi ((a3.getD a7.toNat default).Kind))] [] [] ?_
      refine q_bk 0 ?_
      refine s_vu [] 4 [] [(61, vb (((a3.getD a7.toNat default).Kind) == 0))] [] [] ?_
      refine q_cn (((a3.getD a7.toNat default).Kind) == 0) (fun b17 => ?_) (fun b17 => ?_)
      ·replace hm := qB b17 hm
       obtain ⟨g18, hm⟩ := qM hm
       refine s_du [qd 7 (drw 4 0 (rf qG ([(Leaf.mk a1 (-1))] : List Leaf))) (litP qG default 5 (fun _ => rfl) ([(Leaf.mk a1 (-1))] : List Leaf) 1 rfl), qd 8 (drw 5 0 (rf qG ([(Leaf.mk a1 (-1))] : List Leaf))) (apP0 qG default ([(Leaf.mk a1 (-1))] : List Leaf) 1 5 40 (1 ≤ 1) (Nat.le_refl _) (fun _ => rfl) (wV g18))] [0, 0, 2, 6, 14, 0, 32, 96, 254, 511, 1023, 2047] 4 [0, 2, 4, 7, 60, 61] [] [0, 2, 3] [(0, bx 143 [tl qJ default a3, tl qA default a4, cb a5, ci a6, ci (w64 (a7 + 1)), .own 5 0 5 1, .own 1 0 4 a8.length]), (5, ro 0 78 5 1 (rf qG ([(Leaf.mk a1 (-1))] : List Leaf)))] ?_
       refine s_vu [] 6 [] [(6, vi 0)] [] [] ?_
       refine q_fn [.len 5 (([(Leaf.mk a1 (-1))] : List Leaf).length)] ⟨[(6, vi 0)], [(0, bx 143 [tl qJ default a3, tl qA default a4, cb a5, ci a6, ci (w64 (a7 + 1)), .own 5 0 5 (([(Leaf.mk a1 (-1))] : List Leaf).length), .own 1 0 4 a8.length]), (1, ro 0 28 4 a8.length (rf qE a8)), (5, ro 0 78 5 (([(Leaf.mk a1 (-1))] : List Leaf).length) (rf qG ([(Leaf.mk a1 (-1))] : List Leaf)))]⟩ (o1 (And.intro (show 1 = ([(Leaf.mk a1 (-1))] : List Leaf).length from rfl) (show 1 = ([(Leaf.mk a1 (-1))] : List Leaf).length from rfl))) ?_
       obtain rfl := oi hm
       refine qS 5 2 (by kernel_rfl) ?_
       refine q_rt ?_
       exact q_rm
      ·replace hm := qC b17 hm
       refine s_vu [] 4 [60, 61] [(74, vb (((a3.getD a7.toNat default).Kind) == 1))] [] [] ?_
       refine q_cn (((a3.getD a7.toNat default).Kind) == 1) (fun b19 => ?_) (fun b19 => ?_)
       ·replace hm := qB b19 hm
        obtain ⟨g20, hm⟩ := qM hm
        refine s_du [qd 9 (drw 4 0 (rf qG ([(Leaf.mk a1 ((a3.getD a7.toNat default).At))] : List Leaf))) (litP qG default 5 (fun _ => rfl) ([(Leaf.mk a1 ((a3.getD a7.toNat default).At))] : List Leaf) 1 rfl), qd 10 (drw 5 0 (rf qG ([(Leaf.mk a1 ((a3.getD a7.toNat default).At))] : List Leaf))) (apP0 qG default ([(Leaf.mk a1 ((a3.getD a7.toNat default).At))] : List Leaf) 1 5 40 (1 ≤ 1) (Nat.le_refl _) (fun _ => rfl) (wV g20))] [0, 0, 2, 6, 14, 0, 0, 64, 224, 480, 1022, 2047, 4095, 8191] 4 [2, 74] [] [0] [(0, bx 143 [tl qJ default a3, tl qA default a4, cb a5, ci a6, ci (w64 (a7 + 1)), .own 5 0 5 1, .own 1 0 4 a8.length]), (5, ro 0 78 5 1 (rf qG ([(Leaf.mk a1 ((a3.getD a7.toNat default).At))] : List Leaf)))] ?_
        obtain ⟨v21, h22, hm⟩ := qD hm
        refine s_vn [qd 3 (dpr [.len 5 (([(Leaf.mk a1 ((a3.getD a7.toNat default).At))] : List Leaf).length)] (dex (cen [(0, 0), (5, 0), (1, 0)] [0, 1, 1] 3 1 (XT (a3.getD a7.toNat default) a1 a3 a4 a5 a6 (w64 (a7 + 1)) ([(Leaf.mk a1 ((a3.getD a7.toNat default).At))] : List Leaf) a8 v21) (XR (a3.getD a7.toNat default) a1 a3 a4 a5 a6 (w64 (a7 + 1)) ([(Leaf.mk a1 ((a3.getD a7.toNat default).At))] : List Leaf) a8 v21) [89, 90, 91] [0, 5, 1]))) (And.intro (show 1 = ([(Leaf.mk a1 ((a3.getD a7.toNat default).At))] : List Leaf).length from rfl) (show 1 = ([(Leaf.mk a1 ((a3.getD a7.toNat default).At))] : List Leaf).length from rfl)), qd 3 (Dir.none) (ZC (K := (kx E 182 1)) ⟨[(89, vp 0 0), (90, va [ci ((a3.getD a7.toNat default).Kind), ci ((a3.getD a7.toNat default).At)]), (91, va (qE a1))], [(0, bx 143 [tl qJ default a3, tl qA default a4, cb a5, ci a6, ci (w64 (a7 + 1)), .own 5 0 5 (([(Leaf.mk a1 ((a3.getD a7.toNat default).At))] : List Leaf).length), .own 1 0 4 a8.length]), (5, ro 0 78 5 (([(Leaf.mk a1 ((a3.getD a7.toNat default).At))] : List Leaf).length) (rf qG ([(Leaf.mk a1 ((a3.getD a7.toNat default).At))] : List Leaf))), (1, ro 0 28 4 a8.length (rf qE a8))]⟩ (opAt (rg Tryz.f76 65210) 3) [(0, 0), (5, 0), (1, 0)] [0, 1, 1] 3 o0 rfl (BK (a3.getD a7.toNat default) a1 a3 a4 a5 a6 (w64 (a7 + 1)) ([(Leaf.mk a1 ((a3.getD a7.toNat default).At))] : List Leaf) a8 v21 h22) (.inl rfl) (by kernel_rfl))] 6 ⟨[(6, vi v21)], [(0, bx 143 [tl qJ default a3, tl qA default a4, cb a5, ci a6, ci (w64 (a7 + 1)), .own 5 1 5 (([(Leaf.mk a1 ((a3.getD a7.toNat default).At))] : List Leaf).length), .own 1 1 4 a8.length]), (1, ro 1 28 4 a8.length (rf qE a8)), (5, ro 1 78 5 (([(Leaf.mk a1 ((a3.getD a7.toNat default).At))] : List Leaf).length) (rf qG ([(Leaf.mk a1 ((a3.getD a7.toNat default).At))] : List Leaf)))]⟩ ?_
        obtain rfl := oi hm
        refine qS 5 2 (by kernel_rfl) ?_
        refine q_rt ?_
        exact q_rm
       ·replace hm := qC b19 hm
        refine q_sk ?_
        refine s_du [] [0, 0, 0, 0, 0, 0, 57, 123, 255] 4 [74] [(8, vp 4 0), (9, vp 5 0), (10, vp 6 0)] [] [(4, bx 28 (qE a1)), (5, bx 28 (qE a1)), (6, bx 28 (qE a1))] ?_
        refine q_jn (ι := Rect × Rect × Rect) (fun p => GM a2 a3 a4 a5 a6 a7 a8 p.1 p.2.1 p.2.2) (fun p => XQ a2 a3 a4 a5 a6 a7 a8 (qY n) p.1 p.2.1 p.2.2 = some r) ?_ ?_
        ·rintro ⟨x34, x35, x36⟩ hm
         show H _ (GM a2 a3 a4 a5 a6 a7 a8 x34 x35 x36) _ _
         obtain ⟨g37, hm⟩ := qM hm
         refine s_du [qd 6 (drw 7 0 (rf qE ([x35] : List Rect))) (litP qE default 4 (fun _ => rfl) ([x35] : List Rect) 1 rfl), qd 7 (drw 1 1 (rf qE (a8 ++ ([x35] : List Rect)))) (apP qE default a8 ([x35] : List Rect) a8.length 1 4 32 (1 ≤ 1) (Nat.le_refl _) rfl rfl (fun _ => rfl) (wV g37))] [0, 0, 2, 6, 14, 0, 32, 126, 255, 511, 1023] 7 [9] [] [0, 1, 5] [(0, bx 143 [tl qJ default a3, tl qA default a4, cb a5, ci a6, ci (w64 (a7 + 1)), .emp, .own 1 1 4 (a8.length + 1)]), (1, ro 1 28 4 (a8.length + 1) (rf qE (a8 ++ ([x35] : List Rect))))] ?_
         refine q_sq ?_
         obtain ⟨v38, h39, hm⟩ := qD hm
         refine s_vu [qd 4 (dpr [.len 1 ((a8 ++ ([x35] : List Rect)).length)] (dex (cen [(0, 0), (1, 1)] [0, 2] 6 1 (WU x36 (w64 (a2 + 1)) a3 a4 a5 a6 (w64 (a7 + 1)) (a8 ++ ([x35] : List Rect)) v38) (WL x36 (w64 (a2 + 1)) a3 a4 a5 a6 (w64 (a7 + 1)) (a8 ++ ([x35] : List Rect)) v38) [169, 170, 172] [0, 1]))) (And.intro (Eq.symm (show (a8 ++ ([x35] : List Rect)).length = (a8.length + 1) from (len_app rfl rfl))) (Eq.symm (show (a8 ++ ([x35] : List Rect)).length = (a8.length + 1) from (len_app rfl rfl)))), qd 4 (Dir.none) (ZC (K := (kx E 182 1)) ⟨[(169, vp 0 0), (170, va (qE x36)), (172, vi (w64 (a2 + 1)))], [(0, bx 143 [tl qJ default a3, tl qA default a4, cb a5, ci a6, ci (w64 (a7 + 1)), .emp, .own 1 1 4 ((a8 ++ ([x35] : List Rect)).length)]), (1, ro 1 28 4 ((a8 ++ ([x35] : List Rect)).length) (rf qE (a8 ++ ([x35] : List Rect))))]⟩ (opAt (rg Tryz.f76 8188) 4) [(0, 0), (1, 1)] [0, 2] 6 o0 rfl (ih x36 (w64 (a2 + 1)) a3 a4 a5 a6 (w64 (a7 + 1)) (a8 ++ ([x35] : List Rect)) v38 h39) (.inl rfl) (by kernel_rfl))] 8 [8] [(11, vi v38.1)] [0, 1, 4] [(0, bx 143 [tl qJ default a3, tl qA default a4, cb a5, ci a6, ci v38.2.1, .own 8 0 5 v38.2.2.1.length, .own 1 2 4 v38.2.2.2.length]), (1, ro 2 28 4 v38.2.2.2.length (rf qE v38.2.2.2)), (8, ro 0 78 5 v38.2.2.1.length (rf qG v38.2.2.1))] ?_
         refine s_vu [] 9 [] [(175, vb (v38.1 != 0))] [] [] ?_
         refine q_cn (v38.1 != 0) (fun b40 => ?_) (fun b40 => ?_)
         ·replace hm := qB b40 hm
          refine s_vu [] 9 [0, 2, 10, 11, 175] [(6, vi v38.1)] [6] [] ?_
          obtain rfl := oi hm
          refine qS 8 2 (by kernel_rfl) ?_
          refine q_rt ?_
          exact q_rm
         ·replace hm := qC b40 hm
          refine q_sk ?_
          obtain ⟨v41, h42, hm⟩ := qD hm
          refine s_vn [qd 4 (dex (cen [(0, 0), (8, 0), (1, 2)] [0, 1, 3] 6 1 (jJ x34 (w64 (a2 + 1)) a3 a4 a5 a6 v38.2.1 v38.2.2.1 v38.2.2.2 v41) (jI x34 (w64 (a2 + 1)) a3 a4 a5 a6 v38.2.1 v38.2.2.1 v38.2.2.2 v41) [177, 178, 180] [0, 8, 1])) (ZC (K := (kx E 182 1)) ⟨[(177, vp 0 0), (178, va (qE x34)), (180, vi (w64 (a2 + 1)))], [(0, bx 143 [tl qJ default a3, tl qA default a4, cb a5, ci a6, ci v38.2.1, .own 8 0 5 v38.2.2.1.length, .own 1 2 4 v38.2.2.2.length]), (8, ro 0 78 5 v38.2.2.1.length (rf qG v38.2.2.1)), (1, ro 2 28 4 v38.2.2.2.length (rf qE v38.2.2.2))]⟩ (opAt (rg Tryz.f76 8190) 4) [(0, 0), (8, 0), (1, 2)] [0, 1, 3] 6 o0 rfl (FP x34 (w64 (a2 + 1)) a3 a4 a5 a6 v38.2.1 v38.2.2.1 v38.2.2.2 v41 h42) (.inl rfl) (by kernel_rfl))] 9 ⟨[(6, vi v41.1)], [(0, bx 143 [tl qJ default a3, tl qA default a4, cb a5, ci a6, ci v41.2.1, .own 8 1 5 v41.2.2.1.length, .own 1 3 4 v41.2.2.2.length]), (1, ro 3 28 4 v41.2.2.2.length (rf qE v41.2.2.2)), (8, ro 1 78 5 v41.2.2.1.length (rf qG v41.2.2.1))]⟩ ?_
          obtain rfl := oi hm
          refine qS 8 2 (by kernel_rfl) ?_
          refine q_rt ?_
          exact q_rm
        ·refine s_vu [] 7 [] [(98, vb (((a3.getD a7.toNat default).Kind) == 2))] [] [] ?_
         refine q_cn (((a3.getD a7.toNat default).Kind) == 2) (fun b23 => ?_) (fun b23 => ?_)
         ·replace hm := qB b23 hm
          refine q_sq ?_
          refine q_jn (ι := Bool) (fun p => DM a1 a2 a3 a4 a5 a6 a7 a8 p) (fun p => XS a1 a2 a3 a4 a5 a6 a7 a8 (qY n) p = some r) ?_ ?_
          ·rintro x25 hm
           show H _ (DM a1 a2 a3 a4 a5 a6 a7 a8 x25) _ _
           refine q_cn x25 (fun b26 => ?_) (fun b26 => ?_)
           ·replace hm := qB b26 hm
            refine s_vu [] 7 [0, 2, 4, 7, 8, 9, 10, 112] [(6, vi 20)] [2, 3, 4, 5, 6] [] ?_
            refine q_fn [.ownB 0 5 7 78 5 (rf qG ([] : List Leaf))] ⟨[(6, vi 20)], [(0, bx 143 [tl qJ default a3, tl qA default a4, cb a5, ci a6, ci (w64 (a7 + 1)), .own 7 0 5 0, .own 1 0 4 a8.length]), (1, ro 0 28 4 a8.length (rf qE a8)), (7, ro 0 78 5 0 (rf qG ([] : List Leaf)))]⟩ o0 ?_
            refine q_fn [.len 7 (([] : List Leaf).length)] ⟨[(6, vi 20)], [(0, bx 143 [tl qJ default a3, tl qA default a4, cb a5, ci a6, ci (w64 (a7 + 1)), .own 7 0 5 (([] : List Leaf).length), .own 1 0 4 a8.length]), (1, ro 0 28 4 a8.length (rf qE a8)), (7, ro 0 78 5 (([] : List Leaf).length) (rf qG ([] : List Leaf)))]⟩ (o1 (And.intro (show 0 = ([] : List Leaf).length from rfl) (show 0 = ([] : List Leaf).length from rfl))) ?_
            obtain rfl := oi hm
            refine qS 7 2 (by kernel_rfl) ?_
            refine q_rt ?_
            exact q_rm
           ·replace hm := qC b26 hm
            refine q_sk ?_
            obtain ⟨v27, h28, hm⟩ := qD hm
            refine q_du [qc 8 [115, 117, 121] 7 (YM a1.X ((a3.getD a7.toNat default).At) a6 v27 h28)] [0, 1, 0, 4, 0, 16, 48, 112, 255, 511, 1023, 1023, 1023, 2047, 10239, 28671, 61439, 131071, 262143] 7 [4, 7, 112] [] [2, 3, 4, 5, 6] [(4, bx 28 [ci v27.1.A, ci v27.1.B, ci a1.Y.A, ci a1.Y.B]), (5, bx 28 [ci v27.2.1.A, ci v27.2.1.B, ci a1.Y.A, ci a1.Y.B]), (6, bx 28 [ci v27.2.2.A, ci v27.2.2.B, ci a1.Y.A, ci a1.Y.B])] ?_
            exact q_J ((Rect.mk v27.2.2 a1.Y), (Rect.mk v27.2.1 a1.Y), (Rect.mk v27.1 a1.Y)) hm
          ·rcases Bool.eq_false_or_eq_true (decide (((a3.getD a7.toNat default).At) ≤ a1.X.A)) with b24 | b24
           ·replace hm := qB b24 hm
            refine q_vu [qf 6 b24] 7 [98] [(112, vb true)] [] [] ?_
            exact q_J (true) hm
           ·replace hm := qC b24 hm
            refine q_vu [qf 6 b24] 7 [98] [(112, vb (decide (((a3.getD a7.toNat default).At) ≥ a1.X.B)))] [] [] ?_
            exact q_J (decide (((a3.getD a7.toNat default).At) ≥ a1.X.B)) hm
         ·replace hm := qC b23 hm
          refine q_sq ?_
          refine q_jn (ι := Bool) (fun p => DH a1 a2 a3 a4 a5 a6 a7 a8 p) (fun p => XW a1 a2 a3 a4 a5 a6 a7 a8 (qY n) p = some r) ?_ ?_
          ·rintro x30 hm
           show H _ (DH a1 a2 a3 a4 a5 a6 a7 a8 x30) _ _
           refine q_cn x30 (fun b31 => ?_) (fun b31 => ?_)
           ·replace hm := qB b31 hm
            refine s_vu [] 7 [0, 2, 4, 7, 8, 9, 10, 142] [(6, vi 20)] [2, 3, 4, 5, 6] [] ?_
            refine q_fn [.ownB 0 5 7 78 5 (rf qG ([] : List Leaf))] ⟨[(6, vi 20)], [(0, bx 143 [tl qJ default a3, tl qA default a4, cb a5, ci a6, ci (w64 (a7 + 1)), .own 7 0 5 0, .own 1 0 4 a8.length]), (1, ro 0 28 4 a8.length (rf qE a8)), (7, ro 0 78 5 0 (rf qG ([] : List Leaf)))]⟩ o0 ?_
            refine q_fn [.len 7 (([] : List Leaf).length)] ⟨[(6, vi 20)], [(0, bx 143 [tl qJ default a3, tl qA default a4, cb a5, ci a6, ci (w64 (a7 + 1)), .own 7 0 5 (([] : List Leaf).length), .own 1 0 4 a8.length]), (1, ro 0 28 4 a8.length (rf qE a8)), (7, ro 0 78 5 (([] : List Leaf).length) (rf qG ([] : List Leaf)))]⟩ (o1 (And.intro (show 0 = ([] : List Leaf).length from rfl) (show 0 = ([] : List Leaf).length from rfl))) ?_
            obtain rfl := oi hm
            refine qS 7 2 (by kernel_rfl) ?_
            refine q_rt ?_
            exact q_rm
           ·replace hm := qC b31 hm
            refine q_sk ?_
            obtain ⟨v32, h33, hm⟩ := qD hm
            refine q_du [qc 8 [145, 147, 151] 7 (YM a1.Y ((a3.getD a7.toNat default).At) a6 v32 h33)] [0, 1, 0, 4, 0, 16, 48, 112, 255, 511, 1023, 1023, 1023, 2047, 10239, 28671, 61439, 131071, 262143] 7 [4, 7, 142] [] [2, 3, 4, 5, 6] [(4, bx 28 [ci a1.X.A, ci a1.X.B, ci v32.1.A, ci v32.1.B]), (5, bx 28 [ci a1.X.A, ci a1.X.B, ci v32.2.1.A, ci v32.2.1.B]), (6, bx 28 [ci a1.X.A, ci a1.X.B, ci v32.2.2.A, ci v32.2.2.B])] ?_
            exact q_J ((Rect.mk a1.X v32.2.2), (Rect.mk a1.X v32.2.1), (Rect.mk a1.X v32.1)) hm
          ·rcases Bool.eq_false_or_eq_true (decide (((a3.getD a7.toNat default).At) ≤ a1.Y.A)) with b29 | b29
           ·replace hm := qB b29 hm
            refine q_vu [qf 6 b29] 7 [98] [(142, vb true)] [] [] ?_
            exact q_J (true) hm
           ·replace hm := qC b29 hm
            refine q_vu [qf 6 b29] 7 [98] [(142, vb (decide (((a3.getD a7.toNat default).At) ≥ a1.Y.B)))] [] [] ?_
            exact q_J (decide (((a3.getD a7.toNat default).At) ≥ a1.Y.B)) hm
   ·rcases Bool.eq_false_or_eq_true (decide (((a3.getD a7.toNat default).Kind) < 0)) with b11 | b11
    ·replace hm := qB b11 hm
     refine q_vu [qf 3 b11] 4 [] [(56, vb true)] [] [] ?_
     exact q_J (true) hm
    ·replace hm := qC b11 hm
     rcases Bool.eq_false_or_eq_true (decide (((a3.getD a7.toNat default).Kind) > 3)) with b12 | b12
     ·replace hm := qB b12 hm
      refine q_vu [qf 3 b11, qf 8 b12] 4 [] [(56, vb true)] [] [] ?_
      exact q_J (true) hm
     ·replace hm := qC b12 hm
      rcases Bool.eq_false_or_eq_true (((a3.getD a7.toNat default).Kind) == 0) with b13 | b13
      ·replace hm := qB b13 hm
       refine q_vu [qf 3 b11, qf 8 b12, qf 12 b13] 4 [] [(56, vb (((a3.getD a7.toNat default).At) != 0))] [] [] ?_
       exact q_J (((a3.getD a7.toNat default).At) != 0) hm
      ·replace hm := qC b13 hm
       refine q_vu [qf 3 b11, qf 8 b12, qf 12 b13] 4 [] [(56, vb false)] [] [] ?_
       exact q_J (false) hm
theorem qB2 (a1 : Rect) (a2 : Int) (a3 : List Node) (a4 : List Product) (a5 : Bool) (a6 : Int) (a7 : Int) (a8 : List Rect) (r : Int × Int × (List Leaf) × (List Rect)) (hm : SW a1 a2 a3 a4 a5 a6 a7 a8 = some r) : CtX Tryz.prog globs 76 2 1 [.one (.bptr 0 0 0), .agg (qE a1), .one (ci a2)] [(0, bx 143 [tl qJ default a3, tl qA default a4, cb a5, ci a6, ci a7, .emp, .own 1 0 4 a8.length]), (1, ro 0 28 4 a8.length (rf qE a8))] (WU a1 a2 a3 a4 a5 a6 a7 a8 r) (WL a1 a2 a3 a4 a5 a6 a7 a8 r) := by
 exact qAY FUEL a1 a2 a3 a4 a5 a6 a7 a8 r hm
end Saw
end Go.SL
