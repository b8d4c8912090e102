import Derived.Test.YtjobdnkaonbgnaaGreatEBase
import Derived.Test.YtjobdnkaonbgnaaGreatEFa8
import Derived.Test.YtjobdnkaonbgnaaGreatEFa9
import Derived.Test.YtjobdnkaonbgnaaGreatEFa7
set_option linter.unusedVariables false
set_option linter.unusedSimpArgs false
namespace Go.SL
namespace Saw
open Go.Proofs
set_option maxHeartbeats 4000000
set_option maxRecDepth 100000
def AI (a1 : Rect) (a2 : Int) (a3 : List Node) (a4 : List Product) (a5 : Bool) (a6 : Int) (a7 : Int) (r : Int × Int × (List Leaf) × (List Rect)) : V := vi r.1
def AD (a1 : Rect) (a2 : Int) (a3 : List Node) (a4 : List Product) (a5 : Bool) (a6 : Int) (a7 : Int) (r : Int × Int × (List Leaf) × (List Rect)) : List (Nat × (Nat × O)) := [(0, bx 143 [tl qJ default a3, tl qA default a4, cb a5, ci a6, ci r.2.1, .own 1 0 5 r.2.2.1.length, .own 2 0 4 r.2.2.2.length]), (1, ro 0 78 5 r.2.2.1.length (rf qG r.2.2.1)), (2, ro 0 28 4 r.2.2.2.length (rf qE r.2.2.2))]
def MB (a2 : Int) (a3 : List Node) (a4 : List Product) (a5 : Bool) (a6 : Int) (a7 : Int) (x33 : Rect) (x34 : Rect) (x35 : Rect) : St :=
 ⟨[(0, vp 0 0), (2, vi a2), (8, vp 3 0), (9, vp 4 0), (10, vp 5 0)], [(0, bx 143 [tl qJ default a3, tl qA default a4, cb a5, ci a6, ci (w64 (a7 + 1)), .emp, .emp]), (3, bx 28 (qE x35)), (4, bx 28 (qE x34)), (5, bx 28 (qE x33))]⟩
def ME (a1 : Rect) (a2 : Int) (a3 : List Node) (a4 : List Product) (a5 : Bool) (a6 : Int) (a7 : Int) (x24 : Bool) : St :=
 ⟨[(0, vp 0 0), (2, vi a2), (4, vp 1 0), (7, vp 2 0), (8, vp 3 0), (9, vp 4 0), (10, vp 5 0), (112, vb x24)], [(0, bx 143 [tl qJ default a3, tl qA default a4, cb a5, ci a6, ci (w64 (a7 + 1)), .emp, .emp]), (1, bx 28 (qE a1)), (2, bx 65 [ci ((a3.getD a7.toNat default).Kind), ci ((a3.getD a7.toNat default).At)]), (3, bx 28 (qE a1)), (4, bx 28 (qE a1)), (5, bx 28 (qE a1))]⟩
def LT (a1 : Rect) (a2 : Int) (a3 : List Node) (a4 : List Product) (a5 : Bool) (a6 : Int) (a7 : Int) (x29 : Bool) : St :=
 ⟨[(0, vp 0 0), (2, vi a2), (4, vp 1 0), (7, vp 2 0), (8, vp 3 0), (9, vp 4 0), (10, vp 5 0), (142, vb x29)], [(0, bx 143 [tl qJ default a3, tl qA default a4, cb a5, ci a6, ci (w64 (a7 + 1)), .emp, .emp]), (1, bx 28 (qE a1)), (2, bx 65 [ci ((a3.getD a7.toNat default).Kind), ci ((a3.getD a7.toNat default).At)]), (3, bx 28 (qE a1)), (4, bx 28 (qE a1)), (5, bx 28 (qE a1))]⟩
def LY (a1 : Rect) (a2 : Int) (a3 : List Node) (a4 : List Product) (a5 : Bool) (a6 : Int) (a7 : Int) (x13 : Bool) : St :=
 ⟨[(0, vp 0 0), (2, vi a2), (4, vp 1 0), (7, vp 2 0), (56, vb x13)], [(0, bx 143 [tl qJ default a3, tl qA default a4, cb a5, ci a6, ci (w64 (a7 + 1)), .emp, .emp]), (1, bx 28 (qE a1)), (2, bx 65 [ci ((a3.getD a7.toNat default).Kind), ci ((a3.getD a7.toNat default).At)])]⟩
theorem qDE (a1 : Rect) (a2 : Int) (a3 : List Node) (a4 : List Product) (a5 : Bool) (a6 : Int) (a7 : Int) (r : Int × Int × (List Leaf) × (List Rect)) (hm : YB a1 a2 a3 a4 a5 a6 a7 = some r) : CtX Tryz.prog globs 76 1 1 [.one (.bptr 0 0 0), .agg (qE a1), .one (ci a2)] [(0, bx 143 [tl qJ default a3, tl qA default a4, cb a5, ci a6, ci a7, .emp, .emp])] (AI a1 a2 a3 a4 a5 a6 a7 r) (AD a1 a2 a3 a4 a5 a6 a7 r) := by
 unfold YB at hm
 refine q_E Tryz.f76 182 fun E => ?_
 refine s_vn [] 1 ⟨[(0, vp 0 0), (2, vi a2), (4, vp 1 0)], [(0, bx 143 [tl qJ default a3, tl qA default a4, cb a5, ci a6, ci a7, .emp, .emp]), (1, bx 28 (qE a1))]⟩ ?_
 refine q_sq ?_
 refine s_du [] [0, 1, 3, 7, 0, 16, 48, 112, 240, 511] 2 [] [(21, vb (decide (a7 ≥ ((a3.length : Nat) : Int))))] [] [] ?_
 refine q_cn (decide (a7 ≥ ((a3.length : Nat) : Int))) (fun b8 => ?_) (fun b8 => ?_)
 ·replace hm := qB b8 hm
  refine s_vu [] 2 [0, 2, 4, 21] [(6, vi 3)] [1] [] ?_
  refine q_fn [.ownB 0 5 2 78 5 (rf qG ([] : List Leaf))] ⟨[(6, vi 3)], [(0, bx 143 [tl qJ default a3, tl qA default a4, cb a5, ci a6, ci a7, .own 2 0 5 0, .emp]), (2, ro 0 78 5 0 (rf qG ([] : List Leaf)))]⟩ o0 ?_
  refine q_fn [.ownB 0 6 3 28 4 (rf qE ([] : List Rect))] ⟨[(6, vi 3)], [(0, bx 143 [tl qJ default a3, tl qA default a4, cb a5, ci a6, ci a7, .own 2 0 5 0, .own 3 0 4 0]), (2, ro 0 78 5 0 (rf qG ([] : List Leaf))), (3, ro 0 28 4 0 (rf qE ([] : List Rect)))]⟩ o0 ?_
  refine q_fn [.len 2 (([] : List Leaf).length)] ⟨[(6, vi 3)], [(0, bx 143 [tl qJ default a3, tl qA default a4, cb a5, ci a6, ci a7, .own 2 0 5 (([] : List Leaf).length), .own 3 0 4 0]), (2, ro 0 78 5 (([] : List Leaf).length) (rf qG ([] : List Leaf))), (3, ro 0 28 4 0 (rf qE ([] : List Rect)))]⟩ (o1 (And.intro (show 0 = ([] : List Leaf).length from rfl) (show 0 = ([] : List Leaf).length from rfl))) ?_
  refine q_fn [.len 3 (([] : List Rect).length)] ⟨[(6, vi 3)], [(0, bx 143 [tl qJ default a3, tl qA default a4, cb a5, ci a6, ci a7, .own 2 0 5 (([] : List Leaf).length), .own 3 0 4 (([] : List Rect).length)]), (2, ro 0 78 5 (([] : List Leaf).length) (rf qG ([] : List Leaf))), (3, ro 0 28 4 (([] : List Rect).length) (rf qE ([] : List Rect)))]⟩ (o1 (And.intro (show 0 = ([] : List Rect).length from rfl) (show 0 = ([] : List Rect).length from rfl))) ?_
  obtain rfl := oi hm
  refine qS 2 1 (by kernel_rfl) ?_
  refine qS 3 2 (by kernel_rfl) ?_
  refine q_rt ?_
  exact q_rm
 ·replace hm := qC b8 hm
  refine q_sk ?_
  obtain ⟨g9, hm⟩ := qM hm
  refine s_du [qd 8 (Dir.none) (inb_of g9)] [0, 1, 3, 7, 0, 16, 48, 112, 255, 511, 0, 2047] 2 [21] [(7, vp 2 0)] [] [(2, bx 65 [ci ((a3.getD a7.toNat default).Kind), ci ((a3.getD a7.toNat default).At)])] ?_
  refine s_vu [] 3 [] [] [0] [(0, bx 143 [tl qJ default a3, tl qA default a4, cb a5, ci a6, ci (w64 (a7 + 1)), .emp, .emp])] ?_
  refine q_sq ?_
  refine q_jn (ι := Bool) (fun p => LY a1 a2 a3 a4 a5 a6 a7 p) (fun p => ZH a1 a2 a3 a4 a5 a6 a7 p = some r) ?_ ?_
  ·rintro x13 hm
   show H _ (LY a1 a2 a3 a4 a5 a6 a7 x13) _ _
   refine q_cn x13 (fun b14 => ?_) (fun b14 => ?_)
   ·replace hm := qB b14 hm
    refine s_vu [] 3 [0, 2, 4, 7, 56] [(6, vi 10)] [1, 2] [] ?_
    refine q_fn [.ownB 0 5 3 78 5 (rf qG ([] : List Leaf))] ⟨[(6, vi 10)], [(0, bx 143 [tl qJ default a3, tl qA default a4, cb a5, ci a6, ci (w64 (a7 + 1)), .own 3 0 5 0, .emp]), (3, ro 0 78 5 0 (rf qG ([] : List Leaf)))]⟩ o0 ?_
    refine q_fn [.ownB 0 6 4 28 4 (rf qE ([] : List Rect))] ⟨[(6, vi 10)], [(0, bx 143 [tl qJ default a3, tl qA default a4, cb a5, ci a6, ci (w64 (a7 + 1)), .own 3 0 5 0, .own 4 0 4 0]), (3, ro 0 78 5 0 (rf qG ([] : List Leaf))), (4, ro 0 28 4 0 (rf qE ([] : List Rect)))]⟩ o0 ?_
    refine q_fn [.len 3 (([] : List Leaf).length)] ⟨[(6, vi 10)], [(0, bx 143 [tl qJ default a3, tl qA default a4, cb a5, ci a6, ci (w64 (a7 + 1)), .own 3 0 5 (([] : List Leaf).length), .own 4 0 4 0]), (3, ro 0 78 5 (([] : List Leaf).length) (rf qG ([] : List Leaf))), (4, ro 0 28 4 0 (rf qE ([] : List Rect)))]⟩ (o1 (And.intro (show 0 = ([] : List Leaf).length from rfl) (show 0 = ([] : List Leaf).length from rfl))) ?_
    refine q_fn [.len 4 (([] : List Rect).length)] ⟨[(6, vi 10)], [(0, bx 143 [tl qJ default a3, tl qA default a4, cb a5, ci a6, ci (w64 (a7 + 1)), .own 3 0 5 (([] : List Leaf).length), .own 4 0 4 (([] : List Rect).length)]), (3, ro 0 78 5 (([] : List Leaf).length) (rf qG ([] : List Leaf))), (4, ro 0 28 4 (([] : List Rect).length) (rf qE ([] : List Rect)))]⟩ (o1 (And.intro (show 0 = ([] : List Rect).length from rfl) (show 0 = ([] : List Rect).length from rfl))) ?_
    obtain rfl := oi hm
    refine qS 3 1 (by kernel_rfl) ?_
    refine qS 4 2 (by kernel_rfl) ?_
    refine q_rt ?_
    exact q_rm
   ·replace hm := qC b14 hm
    refine q_sk ?_
    refine q_sq ?_
    refine s_vu [] 3 [56] [(58, vb (decide (a2 > 64)))] [] [] ?_
    refine q_cn (decide (a2 > 64)) (fun b15 => ?_) (fun b15 => ?_)
    ·replace hm := qB b15 hm
     refine s_vu [] 3 [0, 2, 4, 7, 58] [(6, vi 28)] [1, 2] [] ?_
     refine q_fn [.ownB 0 5 3 78 5 (rf qG ([] : List Leaf))] ⟨[(6, vi 28)], [(0, bx 143 [tl qJ default a3, tl qA default a4, cb a5, ci a6, ci (w64 (a7 + 1)), .own 3 0 5 0, .emp]), (3, ro 0 78 5 0 (rf qG ([] : List Leaf)))]⟩ o0 ?_
     refine q_fn [.ownB 0 6 4 28 4 (rf qE ([] : List Rect))] ⟨[(6, vi 28)], [(0, bx 143 [tl qJ default a3, tl qA default a4, cb a5, ci a6, ci (w64 (a7 + 1)), .own 3 0 5 0, .own 4 0 4 0]), (3, ro 0 78 5 0 (rf qG ([] : List Leaf))), (4, ro 0 28 4 0 (rf qE ([] : List Rect)))]⟩ o0 ?_
     refine q_fn [.len 3 (([] : List Leaf).length)] ⟨[(6, vi 28)], [(0, bx 143 [tl qJ default a3, tl qA default a4, cb a5, ci a6, ci (w64 (a7 + 1)), .own 3 0 5 (([] : List Leaf).length), .own 4 0 4 0]), (3, ro 0 78 5 (([] : List Leaf).length) (rf qG ([] : List Leaf))), (4, ro 0 28 4 0 (rf qE ([] : List Rect)))]⟩ (o1 (And.intro (show 0 = ([] : List Leaf).length from rfl) (show 0 = ([] : List Leaf).length from rfl))) ?_
     refine q_fn [.len 4 (([] : List Rect).length)] ⟨[(6, vi 28)], [(0, bx 143 [tl qJ default a3, tl qA default a4, cb a5, ci a6, ci (w64 (a7 + 1)), .own 3 0 5 (([] : List Leaf).length), .own 4 0 4 (([] : List Rect).length)]), (3, ro 0 78 5 (([] : List Leaf).length) (rf qG ([] : List Leaf))), (4, ro 0 28 4 (([] : List Rect).length) (rf qE ([] : List Rect)))]⟩ (o1 (And.intro (show 0 = ([] : List Rect).length from rfl) (show 0 = ([] : List Rect).length from rfl))) ?_
     obtain rfl := oi hm
     refine qS 3 1 (by kernel_rfl) ?_
     refine qS 4 2 (by kernel_rfl) ?_
     refine q_rt ?_
     exact q_rm
    ·replace hm := qC b15 hm
     refine q_sk ?_
     refine q_sq ?_
     refine s_vu [] 3 [58] [(60, vi ((a3.getD a7.toNat default).Kind))] [] [] ?_
     refine q_bk 0 ?_
     refine s_vu [] 3 [] [(61, vb (((a3.getD a7.toNat default).Kind) == 0))] [] [] ?_
     refine q_cn (((a3.getD a7.toNat default).Kind) == 0) (fun b16 => ?_) (fun b16 => ?_)
     ·replace hm := qB b16 hm
      obtain ⟨g17, hm⟩ := qM hm
      refine s_dn [qd 7 (drw 3 0 (rf qG ([(Leaf.mk a1 (-1))] : List Leaf))) (litP qG default 5 (fun _ => rfl) ([(Leaf.mk a1 (-1))] : List Leaf) 1 rfl), qd 8 (drw 4 0 (rf qG ([(Leaf.mk a1 (-1))] : List Leaf))) (apP0 qG default ([(Leaf.mk a1 (-1))] : List Leaf) 1 5 40 (1 ≤ 1) (Nat.le_refl _) (fun _ => rfl) (wV g17))] [0, 0, 2, 6, 14, 0, 32, 96, 254, 511, 1023, 2047] 3 ⟨[], [(0, bx 143 [tl qJ default a3, tl qA default a4, cb a5, ci a6, ci (w64 (a7 + 1)), .own 4 0 5 1, .emp]), (4, ro 0 78 5 1 (rf qG ([(Leaf.mk a1 (-1))] : List Leaf)))]⟩ ?_
      refine s_vu [] 5 [] [(6, vi 0)] [] [] ?_
      refine q_fn [.ownB 0 6 5 28 4 (rf qE ([] : List Rect))] ⟨[(6, vi 0)], [(0, bx 143 [tl qJ default a3, tl qA default a4, cb a5, ci a6, ci (w64 (a7 + 1)), .own 4 0 5 1, .own 5 0 4 0]), (4, ro 0 78 5 1 (rf qG ([(Leaf.mk a1 (-1))] : List Leaf))), (5, ro 0 28 4 0 (rf qE ([] : List Rect)))]⟩ o0 ?_
      refine q_fn [.len 4 (([(Leaf.mk a1 (-1))] : List Leaf).length)] ⟨[(6, vi 0)], [(0, bx 143 [tl qJ default a3, tl qA default a4, cb a5, ci a6, ci (w64 (a7 + 1)), .own 4 0 5 (([(Leaf.mk a1 (-1))] : List Leaf).length), .own 5 0 4 0]), (4, ro 0 78 5 (([(Leaf.mk a1 (-1))] : List Leaf).length) (rf qG ([(Leaf.mk a1 (-1))] : List Leaf))), (5, ro 0 28 4 0 (rf qE ([] : List Rect)))]⟩ (o1 (And.intro (show 1 = ([(Leaf.mk a1 (-1))] : List Leaf).length from rfl) (show 1 = ([(Leaf.mk a1 (-1))] : List Leaf).length from rfl))) ?_
      refine q_fn [.len 5 (([] : List Rect).length)] ⟨[(6, vi 0)], [(0, bx 143 [tl qJ default a3, tl qA default a4, cb a5, ci a6, ci (w64 (a7 + 1)), .own 4 0 5 (([(Leaf.mk a1 (-1))] : List Leaf).length), .own 5 0 4 (([] : List Rect).length)]), (4, ro 0 78 5 (([(Leaf.mk a1 (-1))] : List Leaf).length) (rf qG ([(Leaf.mk a1 (-1))] : List Leaf))), (5, ro 0 28 4 (([] : List Rect).length) (rf qE ([] : List Rect)))]⟩ (o1 (And.intro (show 0 = ([] : List Rect).length from rfl) (show 0 = ([] : List Rect).length from rfl))) ?_
      obtain rfl := oi hm
      refine qS 4 1 (by kernel_rfl) ?_
      refine qS 5 2 (by kernel_rfl) ?_
      refine q_rt ?_
      exact q_rm
     ·replace hm := qC b16 hm
      refine s_vu [] 3 [60, 61] [(74, vb (((a3.getD a7.toNat default).Kind) == 1))] [] [] ?_
      refine q_cn (((a3.getD a7.toNat default).Kind) == 1) (fun b18 => ?_) (fun b18 => ?_)
      ·replace hm := qB b18 hm
       obtain ⟨g19, hm⟩ := qM hm
       refine s_du [qd 9 (drw 3 0 (rf qG ([(Leaf.mk a1 ((a3.getD a7.toNat default).At))] : List Leaf))) (litP qG default 5 (fun _ => rfl) ([(Leaf.mk a1 ((a3.getD a7.toNat default).At))] : List Leaf) 1 rfl), qd 10 (drw 4 0 (rf qG ([(Leaf.mk a1 ((a3.getD a7.toNat default).At))] : List Leaf))) (apP0 qG default ([(Leaf.mk a1 ((a3.getD a7.toNat default).At))] : List Leaf) 1 5 40 (1 ≤ 1) (Nat.le_refl _) (fun _ => rfl) (wV g19))] [0, 0, 2, 6, 14, 0, 0, 64, 224, 480, 1022, 2047, 4095, 8191] 3 [2, 74] [] [0] [(0, bx 143 [tl qJ default a3, tl qA default a4, cb a5, ci a6, ci (w64 (a7 + 1)), .own 4 0 5 1, .emp]), (4, ro 0 78 5 1 (rf qG ([(Leaf.mk a1 ((a3.getD a7.toNat default).At))] : List Leaf)))] ?_
       obtain ⟨v20, h21, hm⟩ := qD hm
       refine s_vn [qd 3 (dpr [.len 4 (([(Leaf.mk a1 ((a3.getD a7.toNat default).At))] : List Leaf).length)] (dex (cen [(0, 0), (4, 0)] [0, 1] 3 1 (SX (a3.getD a7.toNat default) a1 a3 a4 a5 a6 (w64 (a7 + 1)) ([(Leaf.mk a1 ((a3.getD a7.toNat default).At))] : List Leaf) v20) (EC (a3.getD a7.toNat default) a1 a3 a4 a5 a6 (w64 (a7 + 1)) ([(Leaf.mk a1 ((a3.getD a7.toNat default).At))] : List Leaf) v20) [89, 90, 91] [0, 4]))) (And.intro (show 1 = ([(Leaf.mk a1 ((a3.getD a7.toNat default).At))] : List Leaf).length from rfl) (show 1 = ([(Leaf.mk a1 ((a3.getD a7.toNat default).At))] : List Leaf).length from rfl)), qd 3 (Dir.none) (ZC (K := (kx E 182 1)) ⟨[(89, vp 0 0), (90, va [ci ((a3.getD a7.toNat default).Kind), ci ((a3.getD a7.toNat default).At)]), (91, va (qE a1))], [(0, bx 143 [tl qJ default a3, tl qA default a4, cb a5, ci a6, ci (w64 (a7 + 1)), .own 4 0 5 (([(Leaf.mk a1 ((a3.getD a7.toNat default).At))] : List Leaf).length), .emp]), (4, ro 0 78 5 (([(Leaf.mk a1 ((a3.getD a7.toNat default).At))] : List Leaf).length) (rf qG ([(Leaf.mk a1 ((a3.getD a7.toNat default).At))] : List Leaf)))]⟩ (opAt (rg Tryz.f76 65210) 3) [(0, 0), (4, 0)] [0, 1] 3 o0 rfl (qDq (a3.getD a7.toNat default) a1 a3 a4 a5 a6 (w64 (a7 + 1)) ([(Leaf.mk a1 ((a3.getD a7.toNat default).At))] : List Leaf) v20 h21) (.inl rfl) (by kernel_rfl))] 5 ⟨[(6, vi v20)], [(0, bx 143 [tl qJ default a3, tl qA default a4, cb a5, ci a6, ci (w64 (a7 + 1)), .own 4 1 5 (([(Leaf.mk a1 ((a3.getD a7.toNat default).At))] : List Leaf).length), .emp]), (4, ro 1 78 5 (([(Leaf.mk a1 ((a3.getD a7.toNat default).At))] : List Leaf).length) (rf qG ([(Leaf.mk a1 ((a3.getD a7.toNat default).At))] : List Leaf)))]⟩ ?_
       refine q_fn [.ownB 0 6 5 28 4 (rf qE ([] : List Rect))] ⟨[(6, vi v20)], [(0, bx 143 [tl qJ default a3, tl qA default a4, cb a5, ci a6, ci (w64 (a7 + 1)), .own 4 1 5 (([(Leaf.mk a1 ((a3.getD a7.toNat default).At))] : List Leaf).length), .own 5 0 4 0]), (4, ro 1 78 5 (([(Leaf.mk a1 ((a3.getD a7.toNat default).At))] : List Leaf).length) (rf qG ([(Leaf.mk a1 ((a3.getD a7.toNat default).At))] : List Leaf))), (5, ro 0 28 4 0 (rf qE ([] : List Rect)))]⟩ o0 ?_
       refine q_fn [.len 5 (([] : List Rect).length)] ⟨[(6, vi v20)], [(0, bx 143 [tl qJ default a3, tl qA default a4, cb a5, ci a6, ci (w64 (a7 + 1)), .own 4 1 5 (([(Leaf.mk a1 ((a3.getD a7.toNat default).At))] : List Leaf).length), .own 5 0 4 (([] : List Rect).length)]), (4, ro 1 78 5 (([(Leaf.mk a1 ((a3.getD a7.toNat default).At))] : List Leaf).length) (rf qG ([(Leaf.mk a1 ((a3.getD a7.toNat default).At))] : List Leaf))), (5, ro 0 28 4 (([] : List Rect).length) (rf qE ([] : List Rect)))]⟩ (o1 (And.intro (show 0 = ([] : List Rect).length from rfl) (show 0 = ([] : List Rect).length from rfl))) ?_
       obtain rfl := oi hm
       refine qS 4 1 (by kernel_rfl) ?_
       refine qS 5 2 (by kernel_rfl) ?_
       refine q_rt ?_
       exact q_rm
      ·replace hm := qC b18 hm
       refine q_sk ?_
       refine s_du [] [0, 0, 0, 0, 0, 0, 57, 123, 255] 3 [74] [(8, vp 3 0), (9, vp 4 0), (10, vp 5 0)] [] [(3, bx 28 (qE a1)), (4, bx 28 (qE a1)), (5, bx 28 (qE a1))] ?_
       refine q_jn (ι := Rect × Rect × Rect) (fun p => MB a2 a3 a4 a5 a6 a7 p.1 p.2.1 p.2.2) (fun p => TO a2 a3 a4 a5 a6 a7 p.1 p.2.1 p.2.2 = some r) ?_ ?_
       ·rintro ⟨x33, x34, x35⟩ hm
        show H _ (MB a2 a3 a4 a5 a6 a7 x33 x34 x35) _ _
        obtain ⟨g36, hm⟩ := qM hm
        refine s_du [qd 6 (drw 6 0 (rf qE ([x34] : List Rect))) (litP qE default 4 (fun _ => rfl) ([x34] : List Rect) 1 rfl), qd 7 (drw 7 0 (rf qE ([x34] : List Rect))) (apP0 qE default ([x34] : List Rect) 1 4 32 (1 ≤ 1) (Nat.le_refl _) (fun _ => rfl) (wV g36))] [0, 0, 2, 6, 14, 0, 32, 126, 255, 511, 1023] 6 [9] [] [0, 4] [(0, bx 143 [tl qJ default a3, tl qA default a4, cb a5, ci a6, ci (w64 (a7 + 1)), .emp, .own 7 0 4 1]), (7, ro 0 28 4 1 (rf qE ([x34] : List Rect)))] ?_
        refine q_sq ?_
        obtain ⟨v37, h38, hm⟩ := qD hm
        refine s_vu [qd 4 (dpr [.len 7 (([x34] : List Rect).length)] (dex (cen [(0, 0), (7, 0)] [0, 1] 6 1 (WU x35 (w64 (a2 + 1)) a3 a4 a5 a6 (w64 (a7 + 1)) ([x34] : List Rect) v37) (WL x35 (w64 (a2 + 1)) a3 a4 a5 a6 (w64 (a7 + 1)) ([x34] : List Rect) v37) [169, 170, 172] [0, 7]))) (And.intro (show 1 = ([x34] : List Rect).length from rfl) (show 1 = ([x34] : List Rect).length from rfl)), qd 4 (Dir.none) (ZC (K := (kx E 182 1)) ⟨[(169, vp 0 0), (170, va (qE x35)), (172, vi (w64 (a2 + 1)))], [(0, bx 143 [tl qJ default a3, tl qA default a4, cb a5, ci a6, ci (w64 (a7 + 1)), .emp, .own 7 0 4 (([x34] : List Rect).length)]), (7, ro 0 28 4 (([x34] : List Rect).length) (rf qE ([x34] : List Rect)))]⟩ (opAt (rg Tryz.f76 8188) 4) [(0, 0), (7, 0)] [0, 1] 6 o0 rfl (qB2 x35 (w64 (a2 + 1)) a3 a4 a5 a6 (w64 (a7 + 1)) ([x34] : List Rect) v37 h38) (.inl rfl) (by kernel_rfl))] 8 [8] [(11, vi v37.1)] [0, 3, 7] [(0, bx 143 [tl qJ default a3, tl qA default a4, cb a5, ci a6, ci v37.2.1, .own 8 0 5 v37.2.2.1.length, .own 7 1 4 v37.2.2.2.length]), (7, ro 1 28 4 v37.2.2.2.length (rf qE v37.2.2.2)), (8, ro 0 78 5 v37.2.2.1.length (rf qG v37.2.2.1))] ?_
        refine s_vu [] 9 [] [(175, vb (v37.1 != 0))] [] [] ?_
        refine q_cn (v37.1 != 0) (fun b39 => ?_) (fun b39 => ?_)
        ·replace hm := qB b39 hm
         refine s_vu [] 9 [0, 2, 10, 11, 175] [(6, vi v37.1)] [5] [] ?_
         obtain rfl := oi hm
         refine qS 8 1 (by kernel_rfl) ?_
         refine qS 7 2 (by kernel_rfl) ?_
         refine q_rt ?_
         exact q_rm
        ·replace hm := qC b39 hm
         refine q_sk ?_
         obtain ⟨v40, h41, hm⟩ := qD hm
         refine s_vn [qd 4 (dex (cen [(0, 0), (8, 0), (7, 1)] [0, 1, 2] 6 1 (jJ x33 (w64 (a2 + 1)) a3 a4 a5 a6 v37.2.1 v37.2.2.1 v37.2.2.2 v40) (jI x33 (w64 (a2 + 1)) a3 a4 a5 a6 v37.2.1 v37.2.2.1 v37.2.2.2 v40) [177, 178, 180] [0, 8, 7])) (ZC (K := (kx E 182 1)) ⟨[(177, vp 0 0), (178, va (qE x33)), (180, vi (w64 (a2 + 1)))], [(0, bx 143 [tl qJ default a3, tl qA default a4, cb a5, ci a6, ci v37.2.1, .own 8 0 5 v37.2.2.1.length, .own 7 1 4 v37.2.2.2.length]), (8, ro 0 78 5 v37.2.2.1.length (rf qG v37.2.2.1)), (7, ro 1 28 4 v37.2.2.2.length (rf qE v37.2.2.2))]⟩ (opAt (rg Tryz.f76 8190) 4) [(0, 0), (8, 0), (7, 1)] [0, 1, 2] 6 o0 rfl (FP x33 (w64 (a2 + 1)) a3 a4 a5 a6 v37.2.1 v37.2.2.1 v37.2.2.2 v40 h41) (.inl rfl) (by kernel_rfl))] 9 ⟨[(6, vi v40.1)], [(0, bx 143 [tl qJ default a3, tl qA default a4, cb a5, ci a6, ci v40.2.1, .own 8 1 5 v40.2.2.1.length, .own 7 2 4 v40.2.2.2.length]), (7, ro 2 28 4 v40.2.2.2.length (rf qE v40.2.2.2)), (8, ro 1 78 5 v40.2.2.1.length (rf qG v40.2.2.1))]⟩ ?_
         obtain rfl := oi hm
         refine qS 8 1 (by kernel_rfl) ?_
         refine qS 7 2 (by kernel_rfl) ?_
         refine q_rt ?_
         exact q_rm
       ·refine s_vu [] 6 [] [(98, vb (((a3.getD a7.toNat default).Kind) == 2))] [] [] ?_
        refine q_cn (((a3.getD a7.toNat default).Kind) == 2) (fun b22 => ?_) (fun b22 => ?_)
        ·replace hm := qB b22 hm
         refine q_sq ?_
         refine q_jn (ι := Bool) (fun p => ME a1 a2 a3 a4 a5 a6 a7 p) (fun p => TT a1 a2 a3 a4 a5 a6 a7 p = some r) ?_ ?_
         ·rintro x24 hm
          show H _ (ME a1 a2 a3 a4 a5 a6 a7 x24) _ _
          refine q_cn x24 (fun b25 => ?_) (fun b25 => ?_)
          ·replace hm := qB b25 hm
           refine s_vu [] 6 [0, 2, 4, 7, 8, 9, 10, 112] [(6, vi 20)] [1, 2, 3, 4, 5] [] ?_
           refine q_fn [.ownB 0 5 6 78 5 (rf qG ([] : List Leaf))] ⟨[(6, vi 20)], [(0, bx 143 [tl qJ default a3, tl qA default a4, cb a5, ci a6, ci (w64 (a7 + 1)), .own 6 0 5 0, .emp]), (6, ro 0 78 5 0 (rf qG ([] : List Leaf)))]⟩ o0 ?_
           refine q_fn [.ownB 0 6 7 28 4 (rf qE ([] : List Rect))] ⟨[(6, vi 20)], [(0, bx 143 [tl qJ default a3, tl qA default a4, cb a5, ci a6, ci (w64 (a7 + 1)), .own 6 0 5 0, .own 7 0 4 0]), (6, ro 0 78 5 0 (rf qG ([] : List Leaf))), (7, ro 0 28 4 0 (rf qE ([] : List Rect)))]⟩ o0 ?_
           refine q_fn [.len 6 (([] : List Leaf).length)] ⟨[(6, vi 20)], [(0, bx 143 [tl qJ default a3, tl qA default a4, cb a5, ci a6, ci (w64 (a7 + 1)), .own 6 0 5 (([] : List Leaf).length), .own 7 0 4 0]), (6, ro 0 78 5 (([] : List Leaf).length) (rf qG ([] : List Leaf))), (7, ro 0 28 4 0 (rf qE ([] : List Rect)))]⟩ (o1 (And.intro (show 0 = ([] : List Leaf).length from rfl) (show 0 = ([] : List Leaf).length from rfl))) ?_
           refine q_fn [.len 7 (([] : List Rect).length)] ⟨[(6, vi 20)], [(0, bx 143 [tl qJ default a3, tl qA default a4, cb a5, ci a6, ci (w64 (a7 + 1)), .own 6 0 5 (([] : List Leaf).length), .own 7 0 4 (([] : List Rect).length)]), (6, ro 0 78 5 (([] : List Leaf).length) (rf qG ([] : List Leaf))), (7, ro 0 28 4 (([] : List Rect).length) (rf qE ([] : List Rect)))]⟩ (o1 (And.intro (show 0 = ([] : List Rect).length from rfl) (show 0 = ([] : List Rect).length from rfl))) ?_
           obtain rfl := oi hm
           refine qS 6 1 (by kernel_rfl) ?_
           refine qS 7 2 (by kernel_rfl) ?_
           refine q_rt ?_
           exact q_rm
          ·replace hm := qC b25 hm
           refine q_sk ?_
           obtain ⟨v26, h27, hm⟩ := qD hm
           refine q_du [qc 8 [115, 117, 121] 6 (YM a1.X ((a3.getD a7.toNat default).At) a6 v26 h27)] [0, 1, 0, 4, 0, 16, 48, 112, 255, 511, 1023, 1023, 1023, 2047, 10239, 28671, 61439, 131071, 262143] 6 [4, 7, 112] [] [1, 2, 3, 4, 5] [(3, bx 28 [ci v26.1.A, ci v26.1.B, ci a1.Y.A, ci a1.Y.B]), (4, bx 28 [ci v26.2.1.A, ci v26.2.1.B, ci a1.Y.A, ci a1.Y.B]), (5, bx 28 [ci v26.2.2.A, ci v26.2.2.B, ci a1.Y.A, ci a1.Y.B])] ?_
           exact q_J ((Rect.mk v26.2.2 a1.Y), (Rect.mk v26.2.1 a1.Y), (Rect.mk v26.1 a1.Y)) hm
         ·rcases Bool.eq_false_or_eq_true (decide (((a3.getD a7.toNat default).At) ≤ a1.X.A)) with b23 | b23
          ·replace hm := qB b23 hm
           refine q_vu [qf 6 b23] 6 [98] [(112, vb true)] [] [] ?_
           exact q_J (true) hm
          ·replace hm := qC b23 hm
           refine q_vu [qf 6 b23] 6 [98] [(112, vb (decide (((a3.getD a7.toNat default).At) ≥ a1.X.B)))] [] [] ?_
           exact q_J (decide (((a3.getD a7.toNat default).At) ≥ a1.X.B)) hm
        ·replace hm := qC b22 hm
         refine q_sq ?_
         refine q_jn (ι := Bool) (fun p => LT a1 a2 a3 a4 a5 a6 a7 p) (fun p => UJ a1 a2 a3 a4 a5 a6 a7 p = some r) ?_ ?_
         ·rintro x29 hm
          show H _ (LT a1 a2 a3 a4 a5 a6 a7 x29) _ _
          refine q_cn x29 (fun b30 => ?_) (fun b30 => ?_)
          ·replace hm := qB b30 hm
           refine s_vu [] 6 [0, 2, 4, 7, 8, 9, 10, 142] [(6, vi 20)] [1, 2, 3, 4, 5] [] ?_
           refine q_fn [.ownB 0 5 6 78 5 (rf qG ([] : List Leaf))] ⟨[(6, vi 20)], [(0, bx 143 [tl qJ default a3, tl qA default a4, cb a5, ci a6, ci (w64 (a7 + 1)), .own 6 0 5 0, .emp]), (6, ro 0 78 5 0 (rf qG ([] : List Leaf)))]⟩ o0 ?_
           refine q_fn [.ownB 0 6 7 28 4 (rf qE ([] : List Rect))] ⟨[(6, vi 20)], [(0, bx 143 [tl qJ default a3, tl qA default a4, cb a5, ci a6, ci (w64 (a7 + 1)), .own 6 0 5 0, .own 7 0 4 0]), (6, ro 0 78 5 0 (rf qG ([] : List Leaf))), (7, ro 0 28 4 0 (rf qE ([] : List Rect)))]⟩ o0 ?_
           refine q_fn [.len 6 (([] : List Leaf).length)] ⟨[(6, vi 20)], [(0, bx 143 [tl qJ default a3, tl qA default a4, cb a5, ci a6, ci (w64 (a7 + 1)), .own 6 0 5 (([] : List Leaf).length), .own 7 0 4 0]), (6, ro 0 78 5 (([] : List Leaf).length) (rf qG ([] : List Leaf))), (7, ro 0 28 4 0 (rf qE ([] : List Rect)))]⟩ (o1 (And.intro (show 0 = ([] : List Leaf).length from rfl) (show 0 = ([] : List Leaf).length from rfl))) ?_
           refine q_fn [.len 7 (([] : List Rect).length)] ⟨[(6, vi 20)], [(0, bx 143 [tl qJ default a3, tl qA default a4, cb a5, ci a6, ci (w64 (a7 + 1)), .own 6 0 5 (([] : List Leaf).length), .own 7 0 4 (([] : List Rect).length)]), (6, ro 0 78 5 (([] : List Leaf).length) (rf qG ([] : List Leaf))), (7, ro 0 28 4 (([] : List Rect).length) (rf qE ([] : List Rect)))]⟩ (o1 (And.intro (show 0 = ([] : List Rect).length from rfl) (show 0 = ([] : List Rect).length from rfl))) ?_
           obtain rfl := oi hm
           refine qS 6 1 (by kernel_rfl) ?_
           refine qS 7 2 (by kernel_rfl) ?_
           refine q_rt ?_
           exact q_rm
          ·replace hm := qC b30 hm
           refine q_sk ?_
           obtain ⟨v31, h32, hm⟩ := qD hm
           refine q_du [qc 8 [145, 147, 151] 6 (YM a1.Y ((a3.getD a7.toNat default).At) a6 v31 h32)] [0, 1, 0, 4, 0, 16, 48, 112, 255, 511, 1023, 1023, 1023, 2047, 10239, 28671, 61439, 131071, 262143] 6 [4, 7, 142] [] [1, 2, 3, 4, 5] [(3, bx 28 [ci a1.X.A, ci a1.X.B, ci v31.1.A, ci v31.1.B]), (4, bx 28 [ci a1.X.A, ci a1.X.B, ci v31.2.1.A, ci v31.2.1.B]), (5, bx 28 [ci a1.X.A, ci a1.X.B, ci v31.2.2.A, ci v31.2.2.B])] ?_
           exact q_J ((Rect.mk a1.X v31.2.2), (Rect.mk a1.X v31.2.1), (Rect.mk a1.X v31.1)) hm
         ·rcases Bool.eq_false_or_eq_true (decide (((a3.getD a7.toNat default).At) ≤ a1.Y.A)) with b28 | b28
          ·replace hm := qB b28 hm
           refine q_vu [qf 6 b28] 6 [98] [(142, vb true)] [] [] ?_
           exact q_J (true) hm
          ·replace hm := qC b28 hm
           refine q_vu [qf 6 b28] 6 [98] [(142, vb (decide (((a3.getD a7.toNat default).At) ≥ a1.Y.B)))] [] [] ?_
           exact q_J (decide (((a3.getD a7.toNat default).At) ≥ a1.Y.B)) hm
  ·rcases Bool.eq_false_or_eq_true (decide (((a3.getD a7.toNat default).Kind) < 0)) with b10 | b10
   ·replace hm := qB b10 hm
    refine q_vu [qf 3 b10] 3 [] [(56, vb true)] [] [] ?_
    exact q_J (true) hm
   ·replace hm := qC b10 hm
    rcases Bool.eq_false_or_eq_true (decide (((a3.getD a7.toNat default).Kind) > 3)) with b11 | b11
    ·replace hm := qB b11 hm
     refine q_vu [qf 3 b10, qf 8 b11] 3 [] [(56, vb true)] [] [] ?_
     exact q_J (true) hm
    ·replace hm := qC b11 hm
     rcases Bool.eq_false_or_eq_true (((a3.getD a7.toNat default).Kind) == 0) with b12 | b12
     ·replace hm := qB b12 hm
      refine q_vu [qf 3 b10, qf 8 b11, qf 12 b12] 3 [] [(56, vb (((a3.getD a7.toNat default).At) != 0))] [] [] ?_
      exact q_J (((a3.getD a7.toNat default).At) != 0) hm
     ·replace hm := qC b12 hm
      refine q_vu [qf 3 b10, qf 8 b11, qf 12 b12] 3 [] [(56, vb false)] [] [] ?_
      exact q_J (false) hm
def qM2 (r : (List Leaf) × (List Rect) × Int) : V := .tup [.one (.own 0 0 5 r.1.length), .one (.own 1 0 4 r.2.1.length), .one (ci r.2.2)]
def qL5 (r : (List Leaf) × (List Rect) × Int) : List (Nat × (Nat × O)) := [(0, ro 0 78 5 r.1.length (rf qG r.1)), (1, ro 0 28 4 r.2.1.length (rf qE r.2.1))]
def qCS (a1 : Pattern) (a2 : List Product) (a3 : Bool) (a4 : Int) (v12 : Int × Int × (List Leaf) × (List Rect)) (x17 : Int) : St :=
 ⟨[(11, vp 1 0), (12, vi x17)], [(1, bx 143 [tl qJ default a1.Nodes, tl qA default a2, cb a3, ci a4, ci v12.2.1, .own 2 0 5 v12.2.2.1.length, .own 3 0 4 v12.2.2.2.length]), (2, ro 0 78 5 v12.2.2.1.length (rf qG v12.2.2.1)), (3, ro 0 28 4 v12.2.2.2.length (rf qE v12.2.2.2))]⟩
def qCH (a1 : Pattern) (a2 : List Product) (a3 : Bool) (a4 : Int) (v12 : Int × Int × (List Leaf) × (List Rect)) (x15 : Bool) : St :=
 ⟨[(11, vp 1 0), (12, vi v12.1), (45, vb x15)], [(1, bx 143 [tl qJ default a1.Nodes, tl qA default a2, cb a3, ci a4, ci v12.2.1, .own 2 0 5 v12.2.2.1.length, .own 3 0 4 v12.2.2.2.length]), (2, ro 0 78 5 v12.2.2.1.length (rf qG v12.2.2.1)), (3, ro 0 28 4 v12.2.2.2.length (rf qE v12.2.2.2))]⟩
def qB9 (a1 : Pattern) (a2 : List Product) (a3 : Bool) (a4 : Int) (x9 : Bool) : St :=
 ⟨[(1, vc (tl qA default a2)), (2, vb a3), (3, vi a4), (4, vp 0 0), (22, vb x9)], [(0, bx 31 (qF a1))]⟩
theorem CJ (a1 : Pattern) (a2 : List Product) (a3 : Bool) (a4 : Int) (r : (List Leaf) × (List Rect) × Int) (hm : UF a1 a2 a3 a4 = some r) : CtX Tryz.prog globs 40 0 0 [.agg (qF a1), .one (tl qA default a2), .one (cb a3), .one (ci a4)] [] (qM2 r) (qL5 r) := by
 unfold UF at hm
 refine q_E Tryz.f40 53 fun E => ?_
 refine s_vn [] 0 ⟨[(1, vc (tl qA default a2)), (2, vb a3), (3, vi a4), (4, vp 0 0)], [(0, bx 31 (qF a1))]⟩ ?_
 refine q_sq ?_
 obtain ⟨v5, h6, hm⟩ := qD hm
 refine s_vu [qc 2 [14] 1 (qHO a1.Frame v5 h6)] 1 [] [(16, vb (!v5))] [] [] ?_
 refine q_cn (!v5) (fun b7 => ?_) (fun b7 => ?_)
 ·replace hm := qB b7 hm
  refine s_vn [] 1 ⟨[(8, vc (.emp)), (9, vc (.emp)), (10, vi 19)], []⟩ ?_
  refine q_fn [.own 8 1 78 5 (rf qG ([] : List Leaf))] ⟨[(8, vo 1 0 5 0), (9, vc (.emp)), (10, vi 19)], [(1, ro 0 78 5 0 (rf qG ([] : List Leaf)))]⟩ o0 ?_
  refine q_fn [.own 9 2 28 4 (rf qE ([] : List Rect))] ⟨[(8, vo 1 0 5 0), (9, vo 2 0 4 0), (10, vi 19)], [(1, ro 0 78 5 0 (rf qG ([] : List Leaf))), (2, ro 0 28 4 0 (rf qE ([] : List Rect)))]⟩ o0 ?_
  refine q_fn [.len 1 (([] : List Leaf).length)] ⟨[(8, vo 1 0 5 (([] : List Leaf).length)), (9, vo 2 0 4 0), (10, vi 19)], [(1, ro 0 78 5 (([] : List Leaf).length) (rf qG ([] : List Leaf))), (2, ro 0 28 4 0 (rf qE ([] : List Rect)))]⟩ (o1 (And.intro (show 0 = ([] : List Leaf).length from rfl) (show 0 = ([] : List Leaf).length from rfl))) ?_
  refine q_fn [.len 2 (([] : List Rect).length)] ⟨[(8, vo 1 0 5 (([] : List Leaf).length)), (9, vo 2 0 4 (([] : List Rect).length)), (10, vi 19)], [(1, ro 0 78 5 (([] : List Leaf).length) (rf qG ([] : List Leaf))), (2, ro 0 28 4 (([] : List Rect).length) (rf qE ([] : List Rect)))]⟩ (o1 (And.intro (show 0 = ([] : List Rect).length from rfl) (show 0 = ([] : List Rect).length from rfl))) ?_
  obtain rfl := oi hm
  refine qS 1 0 (by kernel_rfl) ?_
  refine qS 2 1 (by kernel_rfl) ?_
  refine q_rt ?_
  exact q_rm
 ·replace hm := qC b7 hm
  refine q_sk ?_
  refine q_sq ?_
  refine q_jn (ι := Bool) (fun p => qB9 a1 a2 a3 a4 p) (fun p => VJ a1 a2 a3 a4 p = some r) ?_ ?_
  ·rintro x9 hm
   show H _ (qB9 a1 a2 a3 a4 x9) _ _
   refine q_cn x9 (fun b10 => ?_) (fun b10 => ?_)
   ·replace hm := qB b10 hm
    refine s_vn [] 1 ⟨[(8, vc (.emp)), (9, vc (.emp)), (10, vi 9)], []⟩ ?_
    refine q_fn [.own 8 1 78 5 (rf qG ([] : List Leaf))] ⟨[(8, vo 1 0 5 0), (9, vc (.emp)), (10, vi 9)], [(1, ro 0 78 5 0 (rf qG ([] : List Leaf)))]⟩ o0 ?_
    refine q_fn [.own 9 2 28 4 (rf qE ([] : List Rect))] ⟨[(8, vo 1 0 5 0), (9, vo 2 0 4 0), (10, vi 9)], [(1, ro 0 78 5 0 (rf qG ([] : List Leaf))), (2, ro 0 28 4 0 (rf qE ([] : List Rect)))]⟩ o0 ?_
    refine q_fn [.len 1 (([] : List Leaf).length)] ⟨[(8, vo 1 0 5 (([] : List Leaf).length)), (9, vo 2 0 4 0), (10, vi 9)], [(1, ro 0 78 5 (([] : List Leaf).length) (rf qG ([] : List Leaf))), (2, ro 0 28 4 0 (rf qE ([] : List Rect)))]⟩ (o1 (And.intro (show 0 = ([] : List Leaf).length from rfl) (show 0 = ([] : List Leaf).length from rfl))) ?_
    refine q_fn [.len 2 (([] : List Rect).length)] ⟨[(8, vo 1 0 5 (([] : List Leaf).length)), (9, vo 2 0 4 (([] : List Rect).length)), (10, vi 9)], [(1, ro 0 78 5 (([] : List Leaf).length) (rf qG ([] : List Leaf))), (2, ro 0 28 4 (([] : List Rect).length) (rf qE ([] : List Rect)))]⟩ (o1 (And.intro (show 0 = ([] : List Rect).length from rfl) (show 0 = ([] : List Rect).length from rfl))) ?_
    obtain rfl := oi hm
    refine qS 1 0 (by kernel_rfl) ?_
    refine qS 2 1 (by kernel_rfl) ?_
    refine q_rt ?_
    exact q_rm
   ·replace hm := qC b10 hm
    refine q_sk ?_
    refine q_sq ?_
    refine s_vu [] 1 [22] [(26, vb (decide (((a1.Nodes.length : Nat) : Int) > 127)))] [] [] ?_
    refine q_cn (decide (((a1.Nodes.length : Nat) : Int) > 127)) (fun b11 => ?_) (fun b11 => ?_)
    ·replace hm := qB b11 hm
     refine s_vn [] 1 ⟨[(8, vc (.emp)), (9, vc (.emp)), (10, vi 4)], []⟩ ?_
     refine q_fn [.own 8 1 78 5 (rf qG ([] : List Leaf))] ⟨[(8, vo 1 0 5 0), (9, vc (.emp)), (10, vi 4)], [(1, ro 0 78 5 0 (rf qG ([] : List Leaf)))]⟩ o0 ?_
     refine q_fn [.own 9 2 28 4 (rf qE ([] : List Rect))] ⟨[(8, vo 1 0 5 0), (9, vo 2 0 4 0), (10, vi 4)], [(1, ro 0 78 5 0 (rf qG ([] : List Leaf))), (2, ro 0 28 4 0 (rf qE ([] : List Rect)))]⟩ o0 ?_
     refine q_fn [.len 1 (([] : List Leaf).length)] ⟨[(8, vo 1 0 5 (([] : List Leaf).length)), (9, vo 2 0 4 0), (10, vi 4)], [(1, ro 0 78 5 (([] : List Leaf).length) (rf qG ([] : List Leaf))), (2, ro 0 28 4 0 (rf qE ([] : List Rect)))]⟩ (o1 (And.intro (show 0 = ([] : List Leaf).length from rfl) (show 0 = ([] : List Leaf).length from rfl))) ?_
     refine q_fn [.len 2 (([] : List Rect).length)] ⟨[(8, vo 1 0 5 (([] : List Leaf).length)), (9, vo 2 0 4 (([] : List Rect).length)), (10, vi 4)], [(1, ro 0 78 5 (([] : List Leaf).length) (rf qG ([] : List Leaf))), (2, ro 0 28 4 (([] : List Rect).length) (rf qE ([] : List Rect)))]⟩ (o1 (And.intro (show 0 = ([] : List Rect).length from rfl) (show 0 = ([] : List Rect).length from rfl))) ?_
     obtain rfl := oi hm
     refine qS 1 0 (by kernel_rfl) ?_
     refine qS 2 1 (by kernel_rfl) ?_
     refine q_rt ?_
     exact q_rm
    ·replace hm := qC b11 hm
     refine q_sk ?_
     refine s_vu [] 1 [1, 2, 3, 26] [(11, vp 1 0)] [] [(1, bx 143 [tl qJ default a1.Nodes, tl qA default a2, cb a3, ci a4, ci 0, .emp, .emp])] ?_
     obtain ⟨v12, h13, hm⟩ := qD hm
     refine s_vu [qd 2 (dex (cen [(1, 0)] [0] 1 1 (AI a1.Frame 1 a1.Nodes a2 a3 a4 0 v12) (AD a1.Frame 1 a1.Nodes a2 a3 a4 0 v12) [11, 34] [1])) (ZC (K := (kx E 53 0)) ⟨[(11, vp 1 0), (34, va (qE a1.Frame))], [(1, bx 143 [tl qJ default a1.Nodes, tl qA default a2, cb a3, ci a4, ci 0, .emp, .emp])]⟩ (opAt (rg Tryz.f40 126) 2) [(1, 0)] [0] 1 o0 rfl (qDE a1.Frame 1 a1.Nodes a2 a3 a4 0 v12 h13) (.inl rfl) (by kernel_rfl))] 2 [] [(12, vi v12.1)] [1] [(1, bx 143 [tl qJ default a1.Nodes, tl qA default a2, cb a3, ci a4, ci v12.2.1, .own 2 0 5 v12.2.2.1.length, .own 3 0 4 v12.2.2.2.length]), (2, ro 0 78 5 v12.2.2.1.length (rf qG v12.2.2.1)), (3, ro 0 28 4 v12.2.2.2.length (rf qE v12.2.2.2))] ?_
     refine q_jn (ι := Int) (fun p => qCS a1 a2 a3 a4 v12 p) (fun p => VA v12 p = some r) ?_ ?_
     ·rintro x17 hm
      show H _ (qCS a1 a2 a3 a4 v12 x17) _ _
      refine q_sq ?_
      refine s_vu [] 4 [] [(47, vb (x17 != 0))] [] [] ?_
      refine q_cn (x17 != 0) (fun b18 => ?_) (fun b18 => ?_)
      ·replace hm := qB b18 hm
       refine s_vn [] 4 ⟨[(8, vc (.emp)), (9, vc (.emp)), (10, vi x17)], []⟩ ?_
       refine q_fn [.own 8 4 78 5 (rf qG ([] : List Leaf))] ⟨[(8, vo 4 0 5 0), (9, vc (.emp)), (10, vi x17)], [(4, ro 0 78 5 0 (rf qG ([] : List Leaf)))]⟩ o0 ?_
       refine q_fn [.own 9 5 28 4 (rf qE ([] : List Rect))] ⟨[(8, vo 4 0 5 0), (9, vo 5 0 4 0), (10, vi x17)], [(4, ro 0 78 5 0 (rf qG ([] : List Leaf))), (5, ro 0 28 4 0 (rf qE ([] : List Rect)))]⟩ o0 ?_
       refine q_fn [.len 4 (([] : List Leaf).length)] ⟨[(8, vo 4 0 5 (([] : List Leaf).length)), (9, vo 5 0 4 0), (10, vi x17)], [(4, ro 0 78 5 (([] : List Leaf).length) (rf qG ([] : List Leaf))), (5, ro 0 28 4 0 (rf qE ([] : List Rect)))]⟩ (o1 (And.intro (show 0 = ([] : List Leaf).length from rfl) (show 0 = ([] : List Leaf).length from rfl))) ?_
       refine q_fn [.len 5 (([] : List Rect).length)] ⟨[(8, vo 4 0 5 (([] : List Leaf).length)), (9, vo 5 0 4 (([] : List Rect).length)), (10, vi x17)], [(4, ro 0 78 5 (([] : List Leaf).length) (rf qG ([] : List Leaf))), (5, ro 0 28 4 (([] : List Rect).length) (rf qE ([] : List Rect)))]⟩ (o1 (And.intro (show 0 = ([] : List Rect).length from rfl) (show 0 = ([] : List Rect).length from rfl))) ?_
       obtain rfl := oi hm
       refine qS 4 0 (by kernel_rfl) ?_
       refine qS 5 1 (by kernel_rfl) ?_
       refine q_rt ?_
       exact q_rm
      ·replace hm := qC b18 hm
       refine q_sk ?_
       refine s_du [] [0, 1, 0, 4, 3, 31, 63] 4 [11, 12, 47] [(8, vo 2 0 5 v12.2.2.1.length), (9, vo 3 0 4 v12.2.2.2.length), (10, vi 0)] [1] [] ?_
       obtain rfl := oi hm
       refine qS 2 0 (by kernel_rfl) ?_
       refine qS 3 1 (by kernel_rfl) ?_
       refine q_rt ?_
       exact q_rm
     ·refine q_jn (ι := Bool) (fun p => qCH a1 a2 a3 a4 v12 p) (fun p => VF v12 p = some r) ?_ ?_
      ·rintro x15 hm
       show H _ (qCH a1 a2 a3 a4 v12 x15) _ _
       refine q_cn x15 (fun b16 => ?_) (fun b16 => ?_)
       ·replace hm := qB b16 hm
        refine q_vu [] 4 [12, 45] [(12, vi 4)] [] [] ?_
        exact q_J (4) hm
       ·replace hm := qC b16 hm
        refine q_sk ?_
        exact q_J (v12.1) hm
      ·rcases Bool.eq_false_or_eq_true (v12.1 == 0) with b14 | b14
       ·replace hm := qB b14 hm
        refine q_vu [qf 2 b14] 4 [4] [(45, vb (decide (v12.2.1 < ((a1.Nodes.length : Nat) : Int))))] [0] [] ?_
        exact q_J (decide (v12.2.1 < ((a1.Nodes.length : Nat) : Int))) hm
       ·replace hm := qC b14 hm
        refine q_vu [qf 2 b14] 4 [4] [(45, vb false)] [0] [] ?_
        exact q_J (false) hm
  ·rcases Bool.eq_false_or_eq_true (decide (a4 < 0)) with b8 | b8
   ·replace hm := qB b8 hm
    refine q_vu [qf 2 b8] 1 [16] [(22, vb true)] [] [] ?_
    exact q_J (true) hm
   ·replace hm := qC b8 hm
    refine q_vu [qf 2 b8] 1 [16] [(22, vb (decide (a4 > 20)))] [] [] ?_
    exact q_J (decide (a4 > 20)) hm
def qLb (r : Int) : V := vi r
def qLh (r : Int) : List (Nat × (Nat × O)) := []
theorem qJD (a1 : Pattern) (a2 : List Product) (a3 : Int) (r : Int) (hm : LL a1 a2 a3 = some r) : CtX Tryz.prog globs 39 0 0 [.agg (qF a1), .one (tl qA default a2), .one (ci a3)] [] (qLb r) (qLh r) := by
 unfold LL at hm
 refine q_E Tryz.f39 19 fun E => ?_
 refine s_vn [] 0 ⟨[(1, vc (tl qA default a2)), (2, vi a3), (3, vp 0 0)], [(0, bx 31 (qF a1))]⟩ ?_
 obtain ⟨v4, h5, hm⟩ := qD hm
 refine s_vn [qk 3 [11, 12, 13] 1 ⟨[(11, va (qF a1)), (12, vc (tl qA default a2)), (13, vi a3)], []⟩ (CJ a1 a2 true a3 v4 h5)] 1 ⟨[(9, vi v4.2.2)], []⟩ ?_
 refine s_vn [] 3 ⟨[(6, vi v4.2.2)], []⟩ ?_
 obtain rfl := oi hm
 refine q_rt ?_
 exact q_rm
def qLl (r : Int) : V := vi r
def qK4 (r : Int) : List (Nat × (Nat × O)) := []
theorem qDg (a1 : List Slice) (a2 : List Defect) (a3 : List Product) (a4 : Pattern) (a5 : Saw) (a6 : Rates) (r : Int) (hm : VM a1 a2 a3 a4 a5 a6 = some r) : CtX Tryz.prog globs 18 0 0 [.one (tl qH default a1), .one (tl qI default a2), .one (tl qA default a3), .agg (qF a4), .agg (zZ a5), .agg (wM a6)] [] (qLl r) (qK4 r) := by
 unfold VM at hm
 refine q_E Tryz.f18 43 fun E => ?_
 refine s_vn [] 0 ⟨[(0, vc (tl qH default a1)), (1, vc (tl qI default a2)), (2, vc (tl qA default a3)), (9, vp 0 0), (10, vp 1 0), (11, vp 2 0)], [(0, bx 31 (qF a4)), (1, bx 33 (zZ a5)), (2, bx 35 (wM a6))]⟩ ?_
 refine q_sq ?_
 obtain ⟨v7, h8, hm⟩ := qD hm
 refine s_vu [qc 1 [17] 3 (wO a1 v7 h8)] 3 [0] [(13, vi v7)] [] [] ?_
 refine s_vu [] 3 [] [(20, vb (v7 != 0))] [] [] ?_
 refine q_cn (v7 != 0) (fun b9 => ?_) (fun b9 => ?_)
 ·replace hm := qB b9 hm
  refine s_vn [] 3 ⟨[(12, vi v7)], []⟩ ?_
  obtain rfl := oi hm
  refine q_rt ?_
  exact q_rm
 ·replace hm := qC b9 hm
  refine q_sk ?_
  refine q_sq ?_
  obtain ⟨v10, h11, hm⟩ := qD hm
  refine s_vu [qc 1 [22] 3 (IB a2 v10 h11)] 3 [1, 13, 20] [(14, vi v10)] [] [] ?_
  refine s_vu [] 3 [] [(25, vb (v10 != 0))] [] [] ?_
  refine q_cn (v10 != 0) (fun b12 => ?_) (fun b12 => ?_)
  ·replace hm := qB b12 hm
   refine s_vn [] 3 ⟨[(12, vi v10)], []⟩ ?_
   obtain rfl := oi hm
   refine q_rt ?_
   exact q_rm
  ·replace hm := qC b12 hm
   refine q_sk ?_
   refine q_sq ?_
   obtain ⟨v13, h14, hm⟩ := qD hm
   refine s_vu [qc 1 [27] 3 (qDy a3 v13 h14)] 3 [14, 25] [(15, vi v13)] [] [] ?_
   refine s_vu [] 3 [] [(30, vb (v13 != 0))] [] [] ?_
   refine q_cn (v13 != 0) (fun b15 => ?_) (fun b15 => ?_)
   ·replace hm := qB b15 hm
    refine s_vn [] 3 ⟨[(12, vi v13)], []⟩ ?_
    obtain rfl := oi hm
    refine q_rt ?_
    exact q_rm
   ·replace hm := qC b15 hm
    refine q_sk ?_
    refine q_sq ?_
    obtain ⟨v16, h17, hm⟩ := qD hm
    refine s_vu [qc 2 [32, 33] 3 (qJw a5 a6 v16 h17)] 3 [11, 15, 30] [(16, vi v16)] [2] [] ?_
    refine s_vu [] 3 [] [(36, vb (v16 != 0))] [] [] ?_
    refine q_cn (v16 != 0) (fun b18 => ?_) (fun b18 => ?_)
    ·replace hm := qB b18 hm
     refine s_vn [] 3 ⟨[(12, vi v16)], []⟩ ?_
     obtain rfl := oi hm
     refine q_rt ?_
     exact q_rm
    ·replace hm := qC b18 hm
     refine q_sk ?_
     obtain ⟨v19, h20, hm⟩ := qD hm
     refine s_vn [qc 4 [38, 39, 41] 3 (qJD a4 a3 a5.Kerf v19 h20)] 3 ⟨[(12, vi v19)], []⟩ ?_
     obtain rfl := oi hm
     refine q_rt ?_
     exact q_rm
def qMy (r : Span) : V := va (e_Span r)
def qMQ (r : Span) : List (Nat × (Nat × O)) := []
theorem CM (a1 : Span) (a2 : Span) (r : Span) (hm : UH a1 a2 = some r) : CtX Tryz.prog globs 136 0 0 [.agg (e_Span a1), .agg (e_Span a2)] [] (qMy r) (qMQ r) := by
 unfold UH at hm
 refine q_E Tryz.f136 24 fun E => ?_
 refine s_vn [] 0 ⟨[(2, vp 0 0), (3, vp 1 0), (4, vp 2 0)], [(0, bx 26 (e_Span a1)), (1, bx 26 (e_Span a2)), (2, bx 26 [ci 0, ci 0])]⟩ ?_
 refine s_vu [] 3 [2, 3] [(5, vp 3 0)] [0, 1] [(3, bx 26 [ci (imax a1.A a2.A), ci (imin a1.B a2.B)])] ?_
 refine q_sq ?_
 refine s_vu [] 4 [] [(21, vb (decide ((imax a1.A a2.A) ≥ (imin a1.B a2.B))))] [] [] ?_
 refine q_cn (decide ((imax a1.A a2.A) ≥ (imin a1.B a2.B))) (fun b3 => ?_) (fun b3 => ?_)
 ·replace hm := qB b3 hm
  refine s_vu [] 4 [5, 21] [] [3] [] ?_
  obtain rfl := oi hm
  refine q_rt ?_
  exact q_rm
 ·replace hm := qC b3 hm
  refine q_sk ?_
  refine s_vn [] 4 ⟨[(4, vp 2 0)], [(2, bx 26 [ci (imax a1.A a2.A), ci (imin a1.B a2.B)])]⟩ ?_
  obtain rfl := oi hm
  refine q_rt ?_
  exact q_rm
def qM9 (r : Box) : V := va (zC r)
def qNn (r : Box) : List (Nat × (Nat × O)) := []
theorem qLu (a1 : Box) (a2 : Box) (r : Box) (hm : qAK a1 a2 = some r) : CtX Tryz.prog globs 118 0 0 [.agg (zC a1), .agg (zC a2)] [] (qM9 r) (qNn r) := by
 unfold qAK at hm
 refine q_E Tryz.f118 21 fun E => ?_
 refine s_vn [] 0 ⟨[(2, vp 0 0), (3, vp 1 0), (4, vp 2 0)], [(0, bx 67 (zC a1)), (1, bx 67 (zC a2)), (2, bx 67 [ci 0, ci 0, ci 0, ci 0, ci 0, ci 0])]⟩ ?_
 obtain ⟨v3, h4, hm⟩ := qD hm
 obtain ⟨v5, h6, hm⟩ := qD hm
 obtain ⟨v7, h8, hm⟩ := qD hm
 refine s_dn [qc 4 [6, 8] 3 (CM a1.X a2.X v3 h4), qc 9 [11, 13] 3 (CM a1.Y a2.Y v5 h6), qc 14 [16, 18] 3 (CM a1.Z a2.Z v7 h8)] [0, 1, 0, 4, 15, 0, 32, 0, 128, 511, 0, 1024, 0, 4096, 16383, 32767, 65535] 3 ⟨[(4, vp 2 0)], [(2, bx 67 [ci v3.A, ci v3.B, ci v5.A, ci v5.B, ci v7.A, ci v7.B])]⟩ ?_
 obtain rfl := oi hm
 refine q_rt ?_
 exact q_rm
def qHN (r : Bool) : V := vb r
def qIC (r : Bool) : List (Nat × (Nat × O)) := []
theorem qBL (a1 : Defect) (a2 : Box) (r : Bool) (hm : XZ a1 a2 = some r) : CtX Tryz.prog globs 79 0 0 [.agg (qI a1), .agg (zC a2)] [] (qHN r) (qIC r) := by
 unfold XZ at hm
 refine q_E Tryz.f79 11 fun E => ?_
 refine s_vn [] 0 ⟨[(2, vp 0 0), (3, vp 1 0)], [(0, bx 135 (qI a1)), (1, bx 67 (zC a2))]⟩ ?_
 obtain ⟨v3, h4, hm⟩ := qD hm
 obtain ⟨v5, h6, hm⟩ := qD hm
 refine s_vn [qc 3 [6, 7] 2 (qLu a1.Box a2 v3 h4), qc 4 [8] 2 (qDe v3 v5 h6)] 2 ⟨[(4, vb (!v5))], []⟩ ?_
 obtain rfl := oi hm
 refine q_rt ?_
 exact q_rm
def qJk (r : Bool) : V := vb r
def qI7 (r : Bool) : List (Nat × (Nat × O)) := []
def qAs (x4 : Bool) : St :=
 ⟨[(2, vb x4)], []⟩
theorem jO (a1 : Span) (r : Bool) (hm : RQ a1 = some r) : CtX Tryz.prog globs 117 0 0 [.agg (e_Span a1)] [] (qJk r) (qI7 r) := by
 unfold RQ at hm
 refine q_E Tryz.f117 18 fun E => ?_
 refine s_vn [] 0 ⟨[(1, vp 0 0)], [(0, bx 26 (e_Span a1))]⟩ ?_
 refine q_jn (ι := Bool) (fun p => qAs p) (fun p => KO p = some r) ?_ ?_
 ·rintro x4 hm
  show H _ (qAs x4) _ _
  obtain rfl := oi hm
  refine q_rt ?_
  exact q_rm
 ·rcases Bool.eq_false_or_eq_true (decide (a1.A ≥ (-600))) with b2 | b2
  ·replace hm := qB b2 hm
   rcases Bool.eq_false_or_eq_true (decide (a1.A < a1.B)) with b3 | b3
   ·replace hm := qB b3 hm
    refine q_vn [qf 3 b2, qf 10 b3] 1 ⟨[(2, vb (decide (a1.B ≤ 600)))], []⟩ ?_
    exact q_J (decide (a1.B ≤ 600)) hm
   ·replace hm := qC b3 hm
    refine q_vn [qf 3 b2, qf 10 b3] 1 ⟨[(2, vb false)], []⟩ ?_
    exact q_J (false) hm
  ·replace hm := qC b2 hm
   refine q_vn [qf 3 b2] 1 ⟨[(2, vb false)], []⟩ ?_
   exact q_J (false) hm
def qJU (r : Bool) : V := vb r
def qJh (r : Bool) : List (Nat × (Nat × O)) := []
def qAh (x13 : Bool) : St :=
 ⟨[(4, vb x13)], []⟩
theorem qHS (a1 : List Slice) (a2 : Box) (r : Bool) (hm : BR a1 a2 = some r) : CtX Tryz.prog globs 77 0 0 [.one (tl qH default a1), .agg (zC a2)] [] (qJU r) (qJh r) := by
 unfold BR at hm
 refine q_E Tryz.f77 36 fun E => ?_
 refine s_vn [] 0 ⟨[(0, vc (tl qH default a1)), (3, vp 0 0)], [(0, bx 67 (zC a2))]⟩ ?_
 refine q_jn (ι := Bool) (fun p => qAh p) (fun p => QY p = some r) ?_ ?_
 ·rintro x13 hm
  show H _ (qAh x13) _ _
  obtain rfl := oi hm
  refine q_rt ?_
  exact q_rm
 ·obtain ⟨v3, h4, hm⟩ := qD hm
  rcases Bool.eq_false_or_eq_true v3 with b5 | b5
  ·replace hm := qB b5 hm
   obtain ⟨v6, h7, hm⟩ := qD hm
   rcases Bool.eq_false_or_eq_true v6 with b8 | b8
   ·replace hm := qB b8 hm
    rcases Bool.eq_false_or_eq_true (decide (a2.Z.A ≥ 0)) with b9 | b9
    ·replace hm := qB b9 hm
     rcases Bool.eq_false_or_eq_true (decide (a2.Z.A < a2.Z.B)) with b10 | b10
     ·replace hm := qB b10 hm
      obtain ⟨v11, h12, hm⟩ := qD hm
      refine q_dn [qc 2 [6] 1 (jO a2.X v3 h4), qf 3 b5, qk 6 [8, 10] 1 ⟨[(8, vb true), (10, va (e_Span a2.Y))], []⟩ (jO a2.Y v6 h7), qf 8 b8, qf 14 b9, qf 23 b10, qk 28 [28, 32] 1 ⟨[(28, vb true), (32, vc (tl qH default a1))], []⟩ (DF a1 v11 h12)] [0, 1, 3, 7, 15, 31, 63, 127, 255, 511, 1023, 2047, 4095, 8191, 16383, 32767, 65535, 131071, 32767, 294911, 819199, 2097151, 4194303, 8388607, 16777215, 33554431, 67108863, 16777215, 150994943, 536870911, 1073741823, 2147483647] 1 ⟨[(4, vb (decide (a2.Z.B ≤ v11)))], []⟩ ?_
      exact q_J (decide (a2.Z.B ≤ v11)) hm
     ·replace hm := qC b10 hm
      refine q_dn [qc 2 [6] 1 (jO a2.X v3 h4), qf 3 b5, qk 6 [8, 10] 1 ⟨[(8, vb true), (10, va (e_Span a2.Y))], []⟩ (jO a2.Y v6 h7), qf 8 b8, qf 14 b9, qf 23 b10] [0, 1, 3, 7, 15, 31, 63, 127, 255, 511, 1023, 2047, 4095, 8191, 16383, 32767, 65535, 131071, 32767, 294911, 819199, 2097151, 4194303, 8388607, 16777215, 33554431, 67108863, 16777215, 150994943, 536870911, 1073741823, 2147483647] 1 ⟨[(4, vb false)], []⟩ ?_
      exact q_J (false) hm
    ·replace hm := qC b9 hm
     refine q_dn [qc 2 [6] 1 (jO a2.X v3 h4), qf 3 b5, qk 6 [8, 10] 1 ⟨[(8, vb true), (10, va (e_Span a2.Y))], []⟩ (jO a2.Y v6 h7), qf 8 b8, qf 14 b9] [0, 1, 3, 7, 15, 31, 63, 127, 255, 511, 1023, 2047, 4095, 8191, 16383, 32767, 65535, 131071, 32767, 294911, 819199, 2097151, 4194303, 8388607, 16777215, 33554431, 67108863, 16777215, 150994943, 536870911, 1073741823, 2147483647] 1 ⟨[(4, vb false)], []⟩ ?_
     exact q_J (false) hm
   ·replace hm := qC b8 hm
    refine q_dn [qc 2 [6] 1 (jO a2.X v3 h4), qf 3 b5, qk 6 [8, 10] 1 ⟨[(8, vb true), (10, va (e_Span a2.Y))], []⟩ (jO a2.Y v6 h7), qf 8 b8] [0, 1, 3, 7, 15, 31, 63, 127, 255, 511, 1023, 2047, 4095, 8191, 16383, 32767, 65535, 131071, 32767, 294911, 819199, 2097151, 4194303, 8388607, 16777215, 33554431, 67108863, 16777215, 150994943, 536870911, 1073741823, 2147483647] 1 ⟨[(4, vb false)], []⟩ ?_
    exact q_J (false) hm
  ·replace hm := qC b5 hm
   refine q_dn [qc 2 [6] 1 (jO a2.X v3 h4), qf 3 b5] [0, 1, 3, 7, 15, 31, 63, 127, 255, 511, 1023, 2047, 4095, 8191, 16383, 32767, 65535, 131071, 32767, 294911, 819199, 2097151, 4194303, 8388607, 16777215, 33554431, 67108863, 16777215, 150994943, 536870911, 1073741823, 2147483647] 1 ⟨[(4, vb false)], []⟩ ?_
   exact q_J (false) hm
def CG (r : Int × Bool) : V := .tup [.one (ci r.1), .one (cb r.2)]
def CD (r : Int × Bool) : List (Nat × (Nat × O)) := []
def HI (a1 : Product) (a2 : Int) (x3 : Int) : St :=
 ⟨[(1, vi a2), (2, vp 0 0), (6, vi x3)], [(0, bx 62 (qA a1))]⟩
def qBZ : St :=
 ⟨[], []⟩
theorem qGa (E : Env 0) (a1 : Product) (a2 : Int) : ∀ (n : Nat) (x3 : Int) (res : (Int × Bool) ⊕ Unit), WI a1 a2 n x3 = some res → HL (kx E 31 0) (nd Tryz.f78 52) (wN 0 (fun o => qBZ) (fun v st => RetQ Tryz.prog Tryz.f78 (CG v) (CD v) .ret st) res) n (HI a1 a2 x3) := by
 intro n
 induction n with
 | zero =>
  intro x3 res hm
  cases hm
 | succ n ih =>
  intro x3 res hm
  refine qQ ?_
  refine q_sq ?_
  refine s_vu [] 1 [] [(11, vb (decide (x3 < ((a1.Lengths.length : Nat) : Int))))] [] [] ?_
  refine q_cn (decide (x3 < ((a1.Lengths.length : Nat) : Int))) (fun b4 => ?_) (fun b4 => ?_)
  ·replace hm := qB b4 hm
   refine q_sk ?_
   refine q_sq ?_
   refine q_bk 1 ?_
   obtain ⟨g5, hm⟩ := qM hm
   refine s_vu [qd 3 (Dir.none) (inb_of g5)] 1 [11] [(20, vb ((a1.Lengths.getD x3.toNat default) == a2))] [] [] ?_
   refine q_cn ((a1.Lengths.getD x3.toNat default) == a2) (fun b6 => ?_) (fun b6 => ?_)
   ·replace hm := qB b6 hm
    refine q_sq ?_
    refine s_vu [] 1 [1, 20] [(25, vb (decide (x3 ≥ ((a1.Prices.length : Nat) : Int))))] [] [] ?_
    refine q_cn (decide (x3 ≥ ((a1.Prices.length : Nat) : Int))) (fun b7 => ?_) (fun b7 => ?_)
    ·replace hm := qB b7 hm
     refine s_vn [] 1 ⟨[(4, vi 0), (5, vb false)], []⟩ ?_
     obtain rfl := oi hm
     refine q_rt ?_
     refine zB (0, false) ?_
     exact q_rm
    ·replace hm := qC b7 hm
     refine q_sk ?_
     obtain ⟨g8, hm⟩ := qM hm
     refine s_vn [qd 3 (Dir.none) (inb_of g8)] 1 ⟨[(4, vi (a1.Prices.getD x3.toNat default)), (5, vb true)], []⟩ ?_
     obtain rfl := oi hm
     refine q_rt ?_
     refine zB ((a1.Prices.getD x3.toNat default), true) ?_
     exact q_rm
   ·replace hm := qC b6 hm
    refine q_sk ?_
    refine q_vu [] 1 [6, 20] [(6, vi (w64 (x3 + 1)))] [] [] ?_
    exact q_hl (HI a1 a2 (w64 (x3 + 1))) (ih (w64 (x3 + 1)) _ hm)
  ·replace hm := qC b4 hm
   refine q_ex 0 ?_
   obtain rfl := oi hm
   exact wR () (by kernel_rfl) (by kernel_rfl)
theorem qDn (a1 : Product) (a2 : Int) (r : Int × Bool) (hm : VO a1 a2 = some r) : CtX Tryz.prog globs 78 0 0 [.agg (qA a1), .one (ci a2)] [] (CG r) (CD r) := by
 unfold VO at hm
 refine q_E Tryz.f78 31 fun E => ?_
 refine s_vn [] 0 ⟨[(1, vi a2), (2, vp 0 0)], [(0, bx 62 (qA a1))]⟩ ?_
 refine q_sq ?_
 refine s_vu [] 1 [] [(6, vi 0)] [] [] ?_
 obtain ⟨u11, h10, hm⟩ := qD hm
 refine zP (nd Tryz.f78 52) 0 (by kernel_rfl) FUEL (fun o => qBZ) (fun v st => RetQ Tryz.prog Tryz.f78 (CG v) (CD v) .ret st) u11 (q_hl (HI a1 a2 0) (qGa E a1 a2 FUEL 0 u11 h10)) ?_ ?_
 ·rintro v12 rfl st hr
  obtain rfl := oi hm
  exact hr
 ·rintro o9 rfl
  replace hm : _ = some r := hm
  refine s_vn [] 1 ⟨[(4, vi 0), (5, vb false)], []⟩ ?_
  obtain rfl := oi hm
  refine q_rt ?_
  exact q_rm
end Saw
end Go.SL
