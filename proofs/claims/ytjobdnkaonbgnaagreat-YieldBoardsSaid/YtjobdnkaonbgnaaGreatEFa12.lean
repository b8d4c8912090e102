import Derived.Test.YtjobdnkaonbgnaaGreatEBase
import Derived.Test.YtjobdnkaonbgnaaGreatEFa10
import Derived.Test.YtjobdnkaonbgnaaGreatEFa11
import Derived.Test.YtjobdnkaonbgnaaGreatEFa8
import Derived.Test.YtjobdnkaonbgnaaGreatEFa9
set_option linter.unusedVariables false
set_option linter.unusedSimpArgs false
namespace Go.SL
namespace Saw
open Go.Proofs
set_option maxHeartbeats 4000000
set_option maxRecDepth 100000
def qMj (r : (List Leaf) × (List Rect) × Int) : V := .tup [.one (.own 0 0 5 r.1.length), .one (.own 1 0 4 r.2.1.length), .one (ci r.2.2)]
def qLt (r : (List Leaf) × (List Rect) × Int) : List (Nat × (Nat × O)) := [(0, ro 0 78 5 r.1.length (rf qF r.1)), (1, ro 0 28 4 r.2.1.length (rf qE r.2.1))]
def qBV (a1 : Pattern) (a2 : List Product) (a3 : Bool) (a4 : Int) (v12 : Int × Int × (List Leaf) × (List Rect)) (x17 : Int) : St :=
 ⟨[(11, vp 1 0), (12, vi x17)], [(1, bx 143 [tl qJ default a1.Nodes, tl qA default a2, cb a3, ci a4, ci v12.2.1, .own 2 0 5 v12.2.2.1.length, .own 3 0 4 v12.2.2.2.length]), (2, ro 0 78 5 v12.2.2.1.length (rf qF v12.2.2.1)), (3, ro 0 28 4 v12.2.2.2.length (rf qE v12.2.2.2))]⟩
def qB1 (a1 : Pattern) (a2 : List Product) (a3 : Bool) (a4 : Int) (v12 : Int × Int × (List Leaf) × (List Rect)) (x15 : Bool) : St :=
 ⟨[(11, vp 1 0), (12, vi v12.1), (45, vb x15)], [(1, bx 143 [tl qJ default a1.Nodes, tl qA default a2, cb a3, ci a4, ci v12.2.1, .own 2 0 5 v12.2.2.1.length, .own 3 0 4 v12.2.2.2.length]), (2, ro 0 78 5 v12.2.2.1.length (rf qF v12.2.2.1)), (3, ro 0 28 4 v12.2.2.2.length (rf qE v12.2.2.2))]⟩
def qBT (a1 : Pattern) (a2 : List Product) (a3 : Bool) (a4 : Int) (x9 : Bool) : St :=
 ⟨[(1, vc (tl qA default a2)), (2, vb a3), (3, vi a4), (4, vp 0 0), (22, vb x9)], [(0, bx 31 (qG a1))]⟩
theorem qD4 (a1 : Pattern) (a2 : List Product) (a3 : Bool) (a4 : Int) (r : (List Leaf) × (List Rect) × Int) (hm : NG a1 a2 a3 a4 = some r) : CtX Tryz.prog globs 40 0 0 [.agg (qG a1), .one (tl qA default a2), .one (cb a3), .one (ci a4)] [] (qMj r) (qLt r) := by
 unfold NG at hm
 refine q_E Tryz.f40 53 fun E => ?_
 refine q_sq ?_
 refine q_vn [] 0 ⟨[(1, vc (tl qA default a2)), (2, vb a3), (3, vi a4), (4, vp 0 0)], [(0, bx 31 (qG a1))]⟩ ?_
 refine q_sq ?_
 refine q_sq ?_
 obtain ⟨v5, h6, hm⟩ := qD hm
 refine q_vu [qc 2 [14] 1 (qHe a1.Frame v5 h6)] 1 [] [(16, vb (!v5))] [] [] ?_
 refine q_cn (!v5) (fun b7 => ?_) (fun b7 => ?_)
 ·replace hm := qC b7 hm
  refine q_sq ?_
  refine q_vn [] 1 ⟨[(8, vc (.emp)), (9, vc (.emp)), (10, vi 19)], []⟩ ?_
  refine q_fn [.own 8 1 78 5 (rf qF ([] : List Leaf))] ⟨[(8, vo 1 0 5 0), (9, vc (.emp)), (10, vi 19)], [(1, ro 0 78 5 0 (rf qF ([] : List Leaf)))]⟩ o0 ?_
  refine q_fn [.own 9 2 28 4 (rf qE ([] : List Rect))] ⟨[(8, vo 1 0 5 0), (9, vo 2 0 4 0), (10, vi 19)], [(1, ro 0 78 5 0 (rf qF ([] : List Leaf))), (2, ro 0 28 4 0 (rf qE ([] : List Rect)))]⟩ o0 ?_
  refine q_fn [.len 1 (([] : List Leaf).length)] ⟨[(8, vo 1 0 5 (([] : List Leaf).length)), (9, vo 2 0 4 0), (10, vi 19)], [(1, ro 0 78 5 (([] : List Leaf).length) (rf qF ([] : List Leaf))), (2, ro 0 28 4 0 (rf qE ([] : List Rect)))]⟩ (o1 (And.intro (show 0 = ([] : List Leaf).length from rfl) (show 0 = ([] : List Leaf).length from rfl))) ?_
  refine q_fn [.len 2 (([] : List Rect).length)] ⟨[(8, vo 1 0 5 (([] : List Leaf).length)), (9, vo 2 0 4 (([] : List Rect).length)), (10, vi 19)], [(1, ro 0 78 5 (([] : List Leaf).length) (rf qF ([] : List Leaf))), (2, ro 0 28 4 (([] : List Rect).length) (rf qE ([] : List Rect)))]⟩ (o1 (And.intro (show 0 = ([] : List Rect).length from rfl) (show 0 = ([] : List Rect).length from rfl))) ?_
  obtain rfl := Option.some.inj hm
  refine qT 1 0 (by kernel_rfl) ?_
  refine qT 2 1 (by kernel_rfl) ?_
  refine q_rt ?_
  exact q_rm
 ·replace hm := qB b7 hm
  refine q_sk ?_
  refine q_sq ?_
  refine q_jn (ι := Bool) (fun p => qBT a1 a2 a3 a4 p) (fun p => UJ a1 a2 a3 a4 p = some r) ?_ ?_
  ·rintro x9 hm
   show H _ (qBT a1 a2 a3 a4 x9) _ _
   refine q_cn x9 (fun b10 => ?_) (fun b10 => ?_)
   ·replace hm := qC b10 hm
    refine q_sq ?_
    refine q_vn [] 1 ⟨[(8, vc (.emp)), (9, vc (.emp)), (10, vi 9)], []⟩ ?_
    refine q_fn [.own 8 1 78 5 (rf qF ([] : List Leaf))] ⟨[(8, vo 1 0 5 0), (9, vc (.emp)), (10, vi 9)], [(1, ro 0 78 5 0 (rf qF ([] : List Leaf)))]⟩ o0 ?_
    refine q_fn [.own 9 2 28 4 (rf qE ([] : List Rect))] ⟨[(8, vo 1 0 5 0), (9, vo 2 0 4 0), (10, vi 9)], [(1, ro 0 78 5 0 (rf qF ([] : List Leaf))), (2, ro 0 28 4 0 (rf qE ([] : List Rect)))]⟩ o0 ?_
    refine q_fn [.len 1 (([] : List Leaf).length)] ⟨[(8, vo 1 0 5 (([] : List Leaf).length)), (9, vo 2 0 4 0), (10, vi 9)], [(1, ro 0 78 5 (([] : List Leaf).length) (rf qF ([] : List Leaf))), (2, ro 0 28 4 0 (rf qE ([] : List Rect)))]⟩ (o1 (And.intro (show 0 = ([] : List Leaf).length from rfl) (show 0 = ([] : List Leaf).length from rfl))) ?_
    refine q_fn [.len 2 (([] : List Rect).length)] ⟨[(8, vo 1 0 5 (([] : List Leaf).length)), (9, vo 2 0 4 (([] : List Rect).length)), (10, vi 9)], [(1, ro 0 78 5 (([] : List Leaf).length) (rf qF ([] : List Leaf))), (2, ro 0 28 4 (([] : List Rect).length) (rf qE ([] : List Rect)))]⟩ (o1 (And.intro (show 0 = ([] : List Rect).length from rfl) (show 0 = ([] : List Rect).length from rfl))) ?_
    obtain rfl := Option.some.inj hm
    refine qT 1 0 (by kernel_rfl) ?_
    refine qT 2 1 (by kernel_rfl) ?_
    refine q_rt ?_
    exact q_rm
   ·replace hm := qB b10 hm
    refine q_sk ?_
    refine q_sq ?_
    refine q_sq ?_
    refine q_vu [] 1 [22] [(26, vb (decide (((a1.Nodes.length : Nat) : Int) > 127)))] [] [] ?_
    refine q_cn (decide (((a1.Nodes.length : Nat) : Int) > 127)) (fun b11 => ?_) (fun b11 => ?_)
    ·replace hm := qC b11 hm
     refine q_sq ?_
     refine q_vn [] 1 ⟨[(8, vc (.emp)), (9, vc (.emp)), (10, vi 4)], []⟩ ?_
     refine q_fn [.own 8 1 78 5 (rf qF ([] : List Leaf))] ⟨[(8, vo 1 0 5 0), (9, vc (.emp)), (10, vi 4)], [(1, ro 0 78 5 0 (rf qF ([] : List Leaf)))]⟩ o0 ?_
     refine q_fn [.own 9 2 28 4 (rf qE ([] : List Rect))] ⟨[(8, vo 1 0 5 0), (9, vo 2 0 4 0), (10, vi 4)], [(1, ro 0 78 5 0 (rf qF ([] : List Leaf))), (2, ro 0 28 4 0 (rf qE ([] : List Rect)))]⟩ o0 ?_
     refine q_fn [.len 1 (([] : List Leaf).length)] ⟨[(8, vo 1 0 5 (([] : List Leaf).length)), (9, vo 2 0 4 0), (10, vi 4)], [(1, ro 0 78 5 (([] : List Leaf).length) (rf qF ([] : List Leaf))), (2, ro 0 28 4 0 (rf qE ([] : List Rect)))]⟩ (o1 (And.intro (show 0 = ([] : List Leaf).length from rfl) (show 0 = ([] : List Leaf).length from rfl))) ?_
     refine q_fn [.len 2 (([] : List Rect).length)] ⟨[(8, vo 1 0 5 (([] : List Leaf).length)), (9, vo 2 0 4 (([] : List Rect).length)), (10, vi 4)], [(1, ro 0 78 5 (([] : List Leaf).length) (rf qF ([] : List Leaf))), (2, ro 0 28 4 (([] : List Rect).length) (rf qE ([] : List Rect)))]⟩ (o1 (And.intro (show 0 = ([] : List Rect).length from rfl) (show 0 = ([] : List Rect).length from rfl))) ?_
     obtain rfl := Option.some.inj hm
     refine qT 1 0 (by kernel_rfl) ?_
     refine qT 2 1 (by kernel_rfl) ?_
     refine q_rt ?_
     exact q_rm
    ·replace hm := qB b11 hm
     refine q_sk ?_
     refine q_sq ?_
     refine q_vu [] 1 [1, 2, 3, 26] [(11, vp 1 0)] [] [(1, bx 143 [tl qJ default a1.Nodes, tl qA default a2, cb a3, ci a4, ci 0, .emp, .emp])] ?_
     refine q_sq ?_
     obtain ⟨v12, h13, hm⟩ := qD hm
     refine q_vu [qd 2 (dex (cen [(1, 0)] [0] 1 1 (EZ a1.Frame 1 a1.Nodes a2 a3 a4 0 v12) (EP a1.Frame 1 a1.Nodes a2 a3 a4 0 v12) [11, 34] [1])) (jI (K := (kx E 53 0)) ⟨[(11, vp 1 0), (34, va (qE a1.Frame))], [(1, bx 143 [tl qJ default a1.Nodes, tl qA default a2, cb a3, ci a4, ci 0, .emp, .emp])]⟩ (opAt (rg Tryz.f40 126) 2) [(1, 0)] [0] 1 o0 rfl (qDA a1.Frame 1 a1.Nodes a2 a3 a4 0 v12 h13) (.inl rfl) (by kernel_rfl))] 2 [] [(12, vi v12.1)] [1] [(1, bx 143 [tl qJ default a1.Nodes, tl qA default a2, cb a3, ci a4, ci v12.2.1, .own 2 0 5 v12.2.2.1.length, .own 3 0 4 v12.2.2.2.length]), (2, ro 0 78 5 v12.2.2.1.length (rf qF v12.2.2.1)), (3, ro 0 28 4 v12.2.2.2.length (rf qE v12.2.2.2))] ?_
     refine q_jn (ι := Int) (fun p => qBV a1 a2 a3 a4 v12 p) (fun p => UG v12 p = some r) ?_ ?_
     ·rintro x17 hm
      show H _ (qBV a1 a2 a3 a4 v12 x17) _ _
      refine q_sq ?_
      refine q_sq ?_
      refine q_vu [] 4 [] [(47, vb (x17 != 0))] [] [] ?_
      refine q_cn (x17 != 0) (fun b18 => ?_) (fun b18 => ?_)
      ·replace hm := qC b18 hm
       refine q_sq ?_
       refine q_vn [] 4 ⟨[(8, vc (.emp)), (9, vc (.emp)), (10, vi x17)], []⟩ ?_
       refine q_fn [.own 8 4 78 5 (rf qF ([] : List Leaf))] ⟨[(8, vo 4 0 5 0), (9, vc (.emp)), (10, vi x17)], [(4, ro 0 78 5 0 (rf qF ([] : List Leaf)))]⟩ o0 ?_
       refine q_fn [.own 9 5 28 4 (rf qE ([] : List Rect))] ⟨[(8, vo 4 0 5 0), (9, vo 5 0 4 0), (10, vi x17)], [(4, ro 0 78 5 0 (rf qF ([] : List Leaf))), (5, ro 0 28 4 0 (rf qE ([] : List Rect)))]⟩ o0 ?_
       refine q_fn [.len 4 (([] : List Leaf).length)] ⟨[(8, vo 4 0 5 (([] : List Leaf).length)), (9, vo 5 0 4 0), (10, vi x17)], [(4, ro 0 78 5 (([] : List Leaf).length) (rf qF ([] : List Leaf))), (5, ro 0 28 4 0 (rf qE ([] : List Rect)))]⟩ (o1 (And.intro (show 0 = ([] : List Leaf).length from rfl) (show 0 = ([] : List Leaf).length from rfl))) ?_
       refine q_fn [.len 5 (([] : List Rect).length)] ⟨[(8, vo 4 0 5 (([] : List Leaf).length)), (9, vo 5 0 4 (([] : List Rect).length)), (10, vi x17)], [(4, ro 0 78 5 (([] : List Leaf).length) (rf qF ([] : List Leaf))), (5, ro 0 28 4 (([] : List Rect).length) (rf qE ([] : List Rect)))]⟩ (o1 (And.intro (show 0 = ([] : List Rect).length from rfl) (show 0 = ([] : List Rect).length from rfl))) ?_
       obtain rfl := Option.some.inj hm
       refine qT 4 0 (by kernel_rfl) ?_
       refine qT 5 1 (by kernel_rfl) ?_
       refine q_rt ?_
       exact q_rm
      ·replace hm := qB b18 hm
       refine q_sk ?_
       refine q_sq ?_
       refine q_du [] [0, 1, 0, 4, 3, 31, 63] 4 [11, 12, 47] [(8, vo 2 0 5 v12.2.2.1.length), (9, vo 3 0 4 v12.2.2.2.length), (10, vi 0)] [1] [] ?_
       obtain rfl := Option.some.inj hm
       refine qT 2 0 (by kernel_rfl) ?_
       refine qT 3 1 (by kernel_rfl) ?_
       refine q_rt ?_
       exact q_rm
     ·refine q_jn (ι := Bool) (fun p => qB1 a1 a2 a3 a4 v12 p) (fun p => UD v12 p = some r) ?_ ?_
      ·rintro x15 hm
       show H _ (qB1 a1 a2 a3 a4 v12 x15) _ _
       refine q_cn x15 (fun b16 => ?_) (fun b16 => ?_)
       ·replace hm := qC b16 hm
        refine q_vu [] 4 [12, 45] [(12, vi 4)] [] [] ?_
        exact q_J (4) hm
       ·replace hm := qB b16 hm
        refine q_sk ?_
        exact q_J (v12.1) hm
      ·rcases Bool.eq_false_or_eq_true (v12.1 == 0) with b14 | b14
       ·replace hm := qC b14 hm
        refine q_vu [qf 2 b14] 4 [4] [(45, vb (decide (v12.2.1 < ((a1.Nodes.length : Nat) : Int))))] [0] [] ?_
        exact q_J (decide (v12.2.1 < ((a1.Nodes.length : Nat) : Int))) hm
       ·replace hm := qB b14 hm
        refine q_vu [qf 2 b14] 4 [4] [(45, vb false)] [0] [] ?_
        exact q_J (false) hm
  ·rcases Bool.eq_false_or_eq_true (decide (a4 < 0)) with b8 | b8
   ·replace hm := qC b8 hm
    refine q_vu [qf 2 b8] 1 [16] [(22, vb true)] [] [] ?_
    exact q_J (true) hm
   ·replace hm := qB b8 hm
    refine q_vu [qf 2 b8] 1 [16] [(22, vb (decide (a4 > 20)))] [] [] ?_
    exact q_J (decide (a4 > 20)) hm
def qKA (r : Int) : V := vi r
def qK6 (r : Int) : List (Nat × (Nat × O)) := []
theorem qJu (a1 : Pattern) (a2 : List Product) (a3 : Int) (r : Int) (hm : LD a1 a2 a3 = some r) : CtX Tryz.prog globs 39 0 0 [.agg (qG a1), .one (tl qA default a2), .one (ci a3)] [] (qKA r) (qK6 r) := by
 unfold LD at hm
 refine q_E Tryz.f39 19 fun E => ?_
 refine q_sq ?_
 refine q_vn [] 0 ⟨[(1, vc (tl qA default a2)), (2, vi a3), (3, vp 0 0)], [(0, bx 31 (qG a1))]⟩ ?_
 refine q_sq ?_
 obtain ⟨v4, h5, hm⟩ := qD hm
 refine q_vn [qk 3 [11, 12, 13] 1 ⟨[(11, va (qG a1)), (12, vc (tl qA default a2)), (13, vi a3)], []⟩ (qD4 a1 a2 true a3 v4 h5)] 1 ⟨[(9, vi v4.2.2)], []⟩ ?_
 refine q_sq ?_
 refine q_vn [] 3 ⟨[(6, vi v4.2.2)], []⟩ ?_
 obtain rfl := Option.some.inj hm
 refine q_rt ?_
 exact q_rm
set_option maxRecDepth 100000
def qKs (r : Int) : V := vi r
def qKD (r : Int) : List (Nat × (Nat × O)) := []
theorem qIK (a1 : List Slice) (a2 : List Defect) (a3 : List Product) (a4 : Pattern) (a5 : Saw) (a6 : Rates) (r : Int) (hm : LH a1 a2 a3 a4 a5 a6 = some r) : CtX Tryz.prog globs 18 0 0 [.one (tl qI default a1), .one (tl qH default a2), .one (tl qA default a3), .agg (qG a4), .agg (wC a5), .agg (yP a6)] [] (qKs r) (qKD r) := by
 unfold LH at hm
 refine q_E Tryz.f18 43 fun E => ?_
 refine q_sq ?_
 refine q_vn [] 0 ⟨[(0, vc (tl qI default a1)), (1, vc (tl qH default a2)), (2, vc (tl qA default a3)), (9, vp 0 0), (10, vp 1 0), (11, vp 2 0)], [(0, bx 31 (qG a4)), (1, bx 33 (wC a5)), (2, bx 35 (yP a6))]⟩ ?_
 refine q_sq ?_
 refine q_sq ?_
 obtain ⟨v7, h8, hm⟩ := qD hm
 refine q_vu [qc 1 [17] 3 (YD a1 v7 h8)] 3 [0] [(13, vi v7)] [] [] ?_
 refine q_sq ?_
 refine q_vu [] 3 [] [(20, vb (v7 != 0))] [] [] ?_
 refine q_cn (v7 != 0) (fun b9 => ?_) (fun b9 => ?_)
 ·replace hm := qC b9 hm
  refine q_sq ?_
  refine q_vn [] 3 ⟨[(12, vi v7)], []⟩ ?_
  obtain rfl := Option.some.inj hm
  refine q_rt ?_
  exact q_rm
 ·replace hm := qB b9 hm
  refine q_sk ?_
  refine q_sq ?_
  refine q_sq ?_
  obtain ⟨v10, h11, hm⟩ := qD hm
  refine q_vu [qc 1 [22] 3 (AP a2 v10 h11)] 3 [1, 13, 20] [(14, vi v10)] [] [] ?_
  refine q_sq ?_
  refine q_vu [] 3 [] [(25, vb (v10 != 0))] [] [] ?_
  refine q_cn (v10 != 0) (fun b12 => ?_) (fun b12 => ?_)
  ·replace hm := qC b12 hm
   refine q_sq ?_
   refine q_vn [] 3 ⟨[(12, vi v10)], []⟩ ?_
   obtain rfl := Option.some.inj hm
   refine q_rt ?_
   exact q_rm
  ·replace hm := qB b12 hm
   refine q_sk ?_
   refine q_sq ?_
   refine q_sq ?_
   obtain ⟨v13, h14, hm⟩ := qD hm
   refine q_vu [qc 1 [27] 3 (qDe a3 v13 h14)] 3 [14, 25] [(15, vi v13)] [] [] ?_
   refine q_sq ?_
   refine q_vu [] 3 [] [(30, vb (v13 != 0))] [] [] ?_
   refine q_cn (v13 != 0) (fun b15 => ?_) (fun b15 => ?_)
   ·replace hm := qC b15 hm
    refine q_sq ?_
    refine q_vn [] 3 ⟨[(12, vi v13)], []⟩ ?_
    obtain rfl := Option.some.inj hm
    refine q_rt ?_
    exact q_rm
   ·replace hm := qB b15 hm
    refine q_sk ?_
    refine q_sq ?_
    refine q_sq ?_
    obtain ⟨v16, h17, hm⟩ := qD hm
    refine q_vu [qc 2 [32, 33] 3 (qJw a5 a6 v16 h17)] 3 [11, 15, 30] [(16, vi v16)] [2] [] ?_
    refine q_sq ?_
    refine q_vu [] 3 [] [(36, vb (v16 != 0))] [] [] ?_
    refine q_cn (v16 != 0) (fun b18 => ?_) (fun b18 => ?_)
    ·replace hm := qC b18 hm
     refine q_sq ?_
     refine q_vn [] 3 ⟨[(12, vi v16)], []⟩ ?_
     obtain rfl := Option.some.inj hm
     refine q_rt ?_
     exact q_rm
    ·replace hm := qB b18 hm
     refine q_sk ?_
     refine q_sq ?_
     obtain ⟨v19, h20, hm⟩ := qD hm
     refine q_vn [qc 4 [38, 39, 41] 3 (qJu a4 a3 a5.Kerf v19 h20)] 3 ⟨[(12, vi v19)], []⟩ ?_
     obtain rfl := Option.some.inj hm
     refine q_rt ?_
     exact q_rm
open Go.Proofs
set_option maxHeartbeats 4000000
set_option maxRecDepth 100000
def qI6 (r : (List Leaf) × Int) : V := .tup [.one (.own 0 0 5 r.1.length), .one (ci r.2)]
def qJn (r : (List Leaf) × Int) : List (Nat × (Nat × O)) := [(0, ro 0 78 5 r.1.length (rf qF r.1))]
theorem qHP (a1 : Pattern) (a2 : Int) (r : (List Leaf) × Int) (hm : BL a1 a2 = some r) : CtX Tryz.prog globs 19 0 0 [.agg (qG a1), .one (ci a2)] [] (qI6 r) (qJn r) := by
 unfold BL at hm
 refine q_E Tryz.f19 18 fun E => ?_
 refine q_sq ?_
 refine q_vn [] 0 ⟨[(1, vi a2), (2, vp 0 0)], [(0, bx 31 (qG a1))]⟩ ?_
 refine q_sq ?_
 obtain ⟨v3, h4, hm⟩ := qD hm
 refine q_vn [qk 2 [10, 11] 1 ⟨[(10, va (qG a1)), (11, vi a2)], []⟩ (CtX.emp (xs' := [.agg (qG a1), .one (.emp), .one (cb false), .one (ci a2)]) (qD4 a1 ([] : List Product) false a2 v3 h4) (And.intro (And.intro rfl (And.intro rfl (And.intro rfl (And.intro rfl (And.intro rfl trivial))))) (And.intro rfl (And.intro rfl (And.intro rfl trivial)))))] 1 ⟨[(6, vo 1 0 5 v3.1.length), (8, vi v3.2.2)], [(1, ro 0 78 5 v3.1.length (rf qF v3.1))]⟩ ?_
 refine q_sq ?_
 refine q_vu [] 3 [6, 8] [(4, vo 1 0 5 v3.1.length), (5, vi v3.2.2)] [] [] ?_
 obtain rfl := Option.some.inj hm
 refine qT 1 0 (by kernel_rfl) ?_
 refine q_rt ?_
 exact q_rm
def qI7 (r : (List Ref22_Cut) × Int) : V := .tup [.one (.own 0 0 9 r.1.length), .one (ci r.2)]
def qIq (r : (List Ref22_Cut) × Int) : List (Nat × (Nat × O)) := [(0, ro 0 81 9 r.1.length (rf qS r.1))]
def qAt (a1 : List Slice) (a2 : List Defect) (a3 : List Product) (a5 : Saw) (a6 : Int) (v10 : (List Leaf) × Int) (x13 : Int) (l22 : List Ref22_Cut) (l22n : Nat) : St :=
 ⟨[(0, vc (tl qI default a1)), (1, vc (tl qH default a2)), (2, vc (tl qA default a3)), (5, vi a6), (10, vp 1 0), (15, vo 2 0 5 v10.1.length), (17, vo 3 0 9 l22n), (18, vi x13)], [(1, bx 33 (wC a5)), (2, ro 0 78 5 v10.1.length (rf qF v10.1)), (3, ro 0 81 9 l22n (rf qS l22))]⟩
def FA (a1 : List Slice) (a2 : List Defect) (a3 : List Product) (a5 : Saw) (a6 : Int) (v10 : (List Leaf) × Int) (l12 : List Ref22_Cut) (l12n : Nat) (x13 : Int) : St :=
 ⟨[(0, vc (tl qI default a1)), (1, vc (tl qH default a2)), (2, vc (tl qA default a3)), (5, vi a6), (10, vp 1 0), (15, vo 2 0 5 v10.1.length), (17, vo 3 0 9 l12n), (18, vi x13)], [(1, bx 33 (wC a5)), (2, ro 0 78 5 v10.1.length (rf qF v10.1)), (3, ro 0 81 9 l12n (rf qS l12))]⟩
def CR (l23 : List Ref22_Cut) : St :=
 ⟨[(17, vo 3 0 9 l23.length)], [(3, ro 0 81 9 l23.length (rf qS l23))]⟩
theorem qEY (E : Env 0) (a1 : List Slice) (a2 : List Defect) (a3 : List Product) (a5 : Saw) (a6 : Int) (v10 : (List Leaf) × Int) : ∀ (n : Nat) (l12 : List Ref22_Cut) (l12n : Nat) (x13 : Int) (res : (List Ref22_Cut)), l12.length = l12n → wN a1 a2 a3 a5 a6 v10 n l12 x13 = some res → HL (kx E 89 0) (nd Tryz.f8 500) (wE 0 (fun o => CR o) res) n (FA a1 a2 a3 a5 a6 v10 l12 l12n x13) := by
 intro n
 induction n with
 | zero =>
  intro l12 l12n x13 res hl0 hm
  cases hm
 | succ n ih =>
  intro l12 l12n x13 res hl0 hm
  subst hl0
  refine qR ?_
  refine q_sq ?_
  refine q_sq ?_
  refine q_vu [] 4 [] [(44, vb (decide (x13 < ((v10.1.length : Nat) : Int))))] [] [] ?_
  refine q_cn (decide (x13 < ((v10.1.length : Nat) : Int))) (fun b14 => ?_) (fun b14 => ?_)
  ·replace hm := qC b14 hm
   refine q_sk ?_
   refine q_jn (ι := (List Ref22_Cut) × Nat) (fun p => qAt a1 a2 a3 a5 a6 v10 x13 p.1 p.2) (fun p => p.1.length = p.2 ∧ KS x13 (wN a1 a2 a3 a5 a6 v10 n) p.1 = some res) ?_ ?_
   ·rintro ⟨l22, l22n⟩ ⟨el22, hm⟩
    replace el22 : l22.length = l22n := el22
    subst el22
    show H _ (qAt a1 a2 a3 a5 a6 v10 x13 l22 l22.length) _ _
    refine q_vu [] 7 [18] [(18, vi (w64 (x13 + 1)))] [] [] ?_
    exact q_hl (FA a1 a2 a3 a5 a6 v10 l22 l22.length (w64 (x13 + 1))) (ih l22 l22.length (w64 (x13 + 1)) _ rfl hm)
   ·refine q_bk 1 ?_
    refine q_sq ?_
    obtain ⟨g15, hm⟩ := qL hm
    refine q_vu [qd 2 (Dir.none) (inb_of g15), qd 3 (Dir.none) (toNat_lt (inb_of g15))] 4 [44] [(19, vp 4 0)] [] [(4, bx 78 [ci ((((v10.1.getD x13.toNat default).Rect).X).A), ci ((((v10.1.getD x13.toNat default).Rect).X).B), ci ((((v10.1.getD x13.toNat default).Rect).Y).A), ci ((((v10.1.getD x13.toNat default).Rect).Y).B), ci ((v10.1.getD x13.toNat default).Product)])] ?_
    refine q_sq ?_
    refine q_sq ?_
    refine q_vu [] 5 [] [(53, vb (decide (((v10.1.getD x13.toNat default).Product) < 0)))] [] [] ?_
    refine q_cn (decide (((v10.1.getD x13.toNat default).Product) < 0)) (fun b16 => ?_) (fun b16 => ?_)
    ·replace hm := qC b16 hm
     refine q_ex 1 ?_
     exact q_J (l12, l12.length) ⟨rfl, hm⟩
    ·replace hm := qB b16 hm
     refine q_sk ?_
     refine q_sq ?_
     obtain ⟨g17, hm⟩ := qL hm
     obtain ⟨v18, h19, hm⟩ := qD hm
     refine q_du [qd 5 (Dir.none) (inb_of g17), qc 12 [55, 56, 61, 63, 65, 66] 5 (qLc a1 a2 (a3.getD ((v10.1.getD x13.toNat default).Product).toNat default) ((v10.1.getD x13.toNat default).Rect) a5.Step a6 v18 h19)] [0, 0, 0, 0, 8, 28, 60, 0, 128, 0, 512, 0, 4095, 8191, 16383, 16383, 16383, 0, 163839, 458751, 1048575] 5 [53] [(20, vp 5 0), (21, vi v18.2.1), (22, vb v18.2.2)] [] [(5, bx 26 (e_Span v18.1))] ?_
     refine q_sq ?_
     refine q_vu [] 6 [22] [(71, vb v18.2.2)] [] [] ?_
     refine q_cn v18.2.2 (fun b20 => ?_) (fun b20 => ?_)
     ·replace hm := qC b20 hm
      obtain ⟨g21, hm⟩ := qL hm
      refine q_vu [qd 14 (drw 6 0 (rf qS ([(Ref22_Cut.mk x13 ((v10.1.getD x13.toNat default).Product) (Box.mk (((v10.1.getD x13.toNat default).Rect).X) (((v10.1.getD x13.toNat default).Rect).Y) v18.1) v18.2.1)] : List Ref22_Cut))) (litP qS default 9 (fun _ => rfl) ([(Ref22_Cut.mk x13 ((v10.1.getD x13.toNat default).Product) (Box.mk (((v10.1.getD x13.toNat default).Rect).X) (((v10.1.getD x13.toNat default).Rect).Y) v18.1) v18.2.1)] : List Ref22_Cut) 1 rfl), qd 15 (drw 3 1 (rf qS (l12 ++ ([(Ref22_Cut.mk x13 ((v10.1.getD x13.toNat default).Product) (Box.mk (((v10.1.getD x13.toNat default).Rect).X) (((v10.1.getD x13.toNat default).Rect).Y) v18.1) v18.2.1)] : List Ref22_Cut)))) (apP qS default l12 ([(Ref22_Cut.mk x13 ((v10.1.getD x13.toNat default).Product) (Box.mk (((v10.1.getD x13.toNat default).Rect).X) (((v10.1.getD x13.toNat default).Rect).Y) v18.1) v18.2.1)] : List Ref22_Cut) l12.length 1 9 72 (1 ≤ 1) (Nat.le_refl _) rfl rfl (fun _ => rfl) (wL g21))] 6 [17, 19, 20, 21, 71] [(17, vo 3 1 9 (l12.length + 1))] [3, 4, 5] [(3, ro 1 81 9 (l12.length + 1) (rf qS (l12 ++ ([(Ref22_Cut.mk x13 ((v10.1.getD x13.toNat default).Product) (Box.mk (((v10.1.getD x13.toNat default).Rect).X) (((v10.1.getD x13.toNat default).Rect).Y) v18.1) v18.2.1)] : List Ref22_Cut))))] ?_
      exact q_J ((l12 ++ ([(Ref22_Cut.mk x13 ((v10.1.getD x13.toNat default).Product) (Box.mk (((v10.1.getD x13.toNat default).Rect).X) (((v10.1.getD x13.toNat default).Rect).Y) v18.1) v18.2.1)] : List Ref22_Cut)), (l12.length + 1)) ⟨(len_app rfl rfl), hm⟩
     ·replace hm := qB b20 hm
      refine q_sk ?_
      exact q_J (l12, l12.length) ⟨rfl, hm⟩
  ·replace hm := qB b14 hm
   refine q_ex 0 ?_
   obtain rfl := Option.some.inj hm
   exact jL (by kernel_rfl) (by kernel_rfl)
theorem qG8 (a1 : List Slice) (a2 : List Defect) (a3 : List Product) (a4 : Pattern) (a5 : Saw) (a6 : Int) (r : (List Ref22_Cut) × Int) (hm : YS a1 a2 a3 a4 a5 a6 = some r) : CtX Tryz.prog globs 8 0 0 [.one (tl qI default a1), .one (tl qH default a2), .one (tl qA default a3), .agg (qG a4), .agg (wC a5), .one (ci a6)] [] (qI7 r) (qIq r) := by
 unfold YS at hm
 refine q_E Tryz.f8 89 fun E => ?_
 refine q_sq ?_
 refine q_vn [] 0 ⟨[(0, vc (tl qI default a1)), (1, vc (tl qH default a2)), (2, vc (tl qA default a3)), (5, vi a6), (9, vp 0 0), (10, vp 1 0)], [(0, bx 31 (qG a4)), (1, bx 33 (wC a5))]⟩ ?_
 refine q_sq ?_
 refine q_sq ?_
 obtain ⟨v7, h8, hm⟩ := qD hm
 refine q_vu [qc 7 [23, 24, 25, 26, 27, 29] 2 (qIK a1 a2 a3 a4 a5 (Rates.mk 0 0 a6) v7 h8)] 2 [] [(14, vi v7)] [] [] ?_
 refine q_sq ?_
 refine q_vu [] 2 [] [(32, vb (v7 != 0))] [] [] ?_
 refine q_cn (v7 != 0) (fun b9 => ?_) (fun b9 => ?_)
 ·replace hm := qC b9 hm
  refine q_sq ?_
  refine q_vn [] 2 ⟨[(12, vc (.emp)), (13, vi v7)], []⟩ ?_
  refine q_fn [.own 12 2 81 9 (rf qS ([] : List Ref22_Cut))] ⟨[(12, vo 2 0 9 0), (13, vi v7)], [(2, ro 0 81 9 0 (rf qS ([] : List Ref22_Cut)))]⟩ o0 ?_
  refine q_fn [.len 2 (([] : List Ref22_Cut).length)] ⟨[(12, vo 2 0 9 (([] : List Ref22_Cut).length)), (13, vi v7)], [(2, ro 0 81 9 (([] : List Ref22_Cut).length) (rf qS ([] : List Ref22_Cut)))]⟩ (o1 (And.intro (show 0 = ([] : List Ref22_Cut).length from rfl) (show 0 = ([] : List Ref22_Cut).length from rfl))) ?_
  obtain rfl := Option.some.inj hm
  refine qT 2 0 (by kernel_rfl) ?_
  refine q_rt ?_
  exact q_rm
 ·replace hm := qB b9 hm
  refine q_sk ?_
  refine q_sq ?_
  obtain ⟨v10, h11, hm⟩ := qD hm
  refine q_vu [qc 3 [35, 37] 2 (qHP a4 a5.Kerf v10 h11)] 2 [9, 14, 32] [(15, vo 2 0 5 v10.1.length)] [0] [(2, ro 0 78 5 v10.1.length (rf qF v10.1))] ?_
  refine q_sq ?_
  refine q_vu [] 3 [] [(17, vc (.emp))] [] [] ?_
  refine q_sq ?_
  refine q_sq ?_
  refine q_vu [] 3 [] [(18, vi 0)] [] [] ?_
  refine q_fn [.own 17 3 81 9 (rf qS ([] : List Ref22_Cut))] ⟨[(0, vc (tl qI default a1)), (1, vc (tl qH default a2)), (2, vc (tl qA default a3)), (5, vi a6), (10, vp 1 0), (15, vo 2 0 5 v10.1.length), (17, vo 3 0 9 0), (18, vi 0)], [(1, bx 33 (wC a5)), (2, ro 0 78 5 v10.1.length (rf qF v10.1)), (3, ro 0 81 9 0 (rf qS ([] : List Ref22_Cut)))]⟩ o0 ?_
  obtain ⟨o24, h25, hm⟩ := qD hm
  refine zX (nd Tryz.f8 500) 0 (by kernel_rfl) FUEL (fun o => CR o) o24 (q_hl (FA a1 a2 a3 a5 a6 v10 ([] : List Ref22_Cut) 0 0) (qEY E a1 a2 a3 a5 a6 v10 FUEL ([] : List Ref22_Cut) 0 0 o24 rfl h25)) ?_
  refine q_sq ?_
  refine q_vu [] 4 [17] [(12, vo 3 0 9 o24.length), (13, vi 0)] [] [] ?_
  obtain rfl := Option.some.inj hm
  refine qT 3 0 (by kernel_rfl) ?_
  refine q_rt ?_
  exact q_rm
set_option maxRecDepth 100000
def PX (r : Bool) : V := vb r
def WO (r : Bool) : List (Nat × (Nat × O)) := []
theorem qAW (r : Bool) : KW (WO r) := by
 intro i k o h
 unfold WO at h
 cases h
def EA (a1 : List Ref22_Cut) (a2 : List Ref22_Cut) (x4 : Int) : St :=
 ⟨[(0, vc (tl qS default a1)), (1, vc (tl qS default a2)), (5, vi x4)], []⟩
def qBU : St :=
 ⟨[], []⟩
theorem qGu (E : Env 0) (a1 : List Ref22_Cut) (a2 : List Ref22_Cut) : ∀ (n : Nat) (x4 : Int) (res : Bool ⊕ Unit), XP a1 a2 n x4 = some res → HL (kx E 26 0) (nd Tryz.f9 116) (wI 0 (fun o => qBU) (fun v st => RetQ Tryz.prog Tryz.f9 (PX v) (WO v) .ret st) res) n (EA a1 a2 x4) := by
 intro n
 induction n with
 | zero =>
  intro x4 res hm
  cases hm
 | succ n ih =>
  intro x4 res hm
  refine qR ?_
  refine q_sq ?_
  refine q_sq ?_
  refine q_vu [] 0 [] [(14, vb (decide (x4 < ((a1.length : Nat) : Int))))] [] [] ?_
  refine q_cn (decide (x4 < ((a1.length : Nat) : Int))) (fun b5 => ?_) (fun b5 => ?_)
  ·replace hm := qC b5 hm
   refine q_sk ?_
   refine q_sq ?_
   refine q_bk 1 ?_
   refine q_sq ?_
   obtain ⟨g6, hm⟩ := qL hm
   obtain ⟨g7, hm⟩ := qL hm
   refine q_du [qd 2 (Dir.none) (inb_of g6), qd 6 (Dir.none) (inb_of g7)] [0, 0, 3, 7, 0, 0, 48, 112, 255] 0 [14] [(25, vb (!((((a1.getD x4.toNat default).Leaf) == ((a2.getD x4.toNat default).Leaf)) && ((((a1.getD x4.toNat default).Product) == ((a2.getD x4.toNat default).Product)) && ((((((((a1.getD x4.toNat default).Box).X).A) == ((((a2.getD x4.toNat default).Box).X).A)) && ((((((a1.getD x4.toNat default).Box).X).B) == ((((a2.getD x4.toNat default).Box).X).B)) && true)) && (((((((a1.getD x4.toNat default).Box).Y).A) == ((((a2.getD x4.toNat default).Box).Y).A)) && ((((((a1.getD x4.toNat default).Box).Y).B) == ((((a2.getD x4.toNat default).Box).Y).B)) && true)) && (((((((a1.getD x4.toNat default).Box).Z).A) == ((((a2.getD x4.toNat default).Box).Z).A)) && ((((((a1.getD x4.toNat default).Box).Z).B) == ((((a2.getD x4.toNat default).Box).Z).B)) && true)) && true))) && ((((a1.getD x4.toNat default).Worth) == ((a2.getD x4.toNat default).Worth)) && true))))))] [] [] ?_
   refine q_cn (!((((a1.getD x4.toNat default).Leaf) == ((a2.getD x4.toNat default).Leaf)) && ((((a1.getD x4.toNat default).Product) == ((a2.getD x4.toNat default).Product)) && ((((((((a1.getD x4.toNat default).Box).X).A) == ((((a2.getD x4.toNat default).Box).X).A)) && ((((((a1.getD x4.toNat default).Box).X).B) == ((((a2.getD x4.toNat default).Box).X).B)) && true)) && (((((((a1.getD x4.toNat default).Box).Y).A) == ((((a2.getD x4.toNat default).Box).Y).A)) && ((((((a1.getD x4.toNat default).Box).Y).B) == ((((a2.getD x4.toNat default).Box).Y).B)) && true)) && (((((((a1.getD x4.toNat default).Box).Z).A) == ((((a2.getD x4.toNat default).Box).Z).A)) && ((((((a1.getD x4.toNat default).Box).Z).B) == ((((a2.getD x4.toNat default).Box).Z).B)) && true)) && true))) && ((((a1.getD x4.toNat default).Worth) == ((a2.getD x4.toNat default).Worth)) && true))))) (fun b8 => ?_) (fun b8 => ?_)
   ·replace hm := qC b8 hm
    refine q_sq ?_
    refine q_vn [] 0 ⟨[(4, vb false)], []⟩ ?_
    obtain rfl := Option.some.inj hm
    refine q_rt ?_
    refine qY false ?_
    exact q_rm
   ·replace hm := qB b8 hm
    refine q_sk ?_
    refine q_vu [] 0 [5, 25] [(5, vi (w64 (x4 + 1)))] [] [] ?_
    exact q_hl (EA a1 a2 (w64 (x4 + 1))) (ih (w64 (x4 + 1)) _ hm)
  ·replace hm := qB b5 hm
   refine q_ex 0 ?_
   obtain rfl := Option.some.inj hm
   exact wJ () (by kernel_rfl) (by kernel_rfl)
theorem ref22_Same_ok (a1 : List Ref22_Cut) (a2 : List Ref22_Cut) (r : Bool) (hm : EF a1 a2 = some r) : CtX Tryz.prog globs 9 0 0 [.one (tl qS default a1), .one (tl qS default a2)] [] (PX r) (WO r) := by
 unfold EF at hm
 refine q_E Tryz.f9 26 fun E => ?_
 refine q_sq ?_
 refine q_vn [] 0 ⟨[(0, vc (tl qS default a1)), (1, vc (tl qS default a2))], []⟩ ?_
 refine q_sq ?_
 refine q_sq ?_
 refine q_vu [] 0 [] [(10, vb (((a1.length : Nat) : Int) != ((a2.length : Nat) : Int)))] [] [] ?_
 refine q_cn (((a1.length : Nat) : Int) != ((a2.length : Nat) : Int)) (fun b3 => ?_) (fun b3 => ?_)
 ·replace hm := qC b3 hm
  refine q_sq ?_
  refine q_vn [] 0 ⟨[(4, vb false)], []⟩ ?_
  obtain rfl := Option.some.inj hm
  refine q_rt ?_
  exact q_rm
 ·replace hm := qB b3 hm
  refine q_sk ?_
  refine q_sq ?_
  refine q_sq ?_
  refine q_vu [] 0 [10] [(5, vi 0)] [] [] ?_
  obtain ⟨u11, h10, hm⟩ := qD hm
  refine zM (nd Tryz.f9 116) 0 (by kernel_rfl) FUEL (fun o => qBU) (fun v st => RetQ Tryz.prog Tryz.f9 (PX v) (WO v) .ret st) u11 (q_hl (EA a1 a2 0) (qGu E a1 a2 FUEL 0 u11 h10)) ?_ ?_
  ·rintro v12 rfl st hr
   obtain rfl := Option.some.inj hm
   exact hr
  ·rintro o9 rfl
   replace hm : _ = some r := hm
   refine q_sq ?_
   refine q_vn [] 0 ⟨[(4, vb true)], []⟩ ?_
   obtain rfl := Option.some.inj hm
   refine q_rt ?_
   exact q_rm
end Saw
end Go.SL
