import Derived.Test.YtjobdnkaonbgnaaGreatEBase
import Derived.Test.YtjobdnkaonbgnaaGreatEFa10
set_option linter.unusedVariables false
set_option linter.unusedSimpArgs false
namespace Go.SL
namespace Saw
open Go.Proofs
set_option maxHeartbeats 4000000
set_option maxRecDepth 100000
def WE (a1 : Rect) (a2 : Int) (a3 : List Node) (a4 : List Product) (a5 : Bool) (a6 : Int) (a7 : Int) (a8 : List Rect) (r : Int × Int × (List Leaf) × (List Rect)) : V := vi r.1
def ZZ (a1 : Rect) (a2 : Int) (a3 : List Node) (a4 : List Product) (a5 : Bool) (a6 : Int) (a7 : Int) (a8 : List Rect) (r : Int × Int × (List Leaf) × (List Rect)) : List (Nat × (Nat × O)) := [(0, bx 143 [tl qJ default a3, tl qA default a4, cb a5, ci a6, ci r.2.1, .own 2 0 5 r.2.2.1.length, .own 1 0 4 r.2.2.2.length]), (1, ro 0 28 4 r.2.2.2.length (rf qE r.2.2.2)), (2, ro 0 78 5 r.2.2.1.length (rf qF r.2.2.1))]
def VL (a2 : Int) (a3 : List Node) (a4 : List Product) (a5 : Bool) (a6 : Int) (a7 : Int) (a8 : List Rect) (x34 : Rect) (x35 : Rect) (x36 : Rect) : St :=
 ⟨[(0, vp 0 0), (2, vi a2), (8, vp 4 0), (9, vp 5 0), (10, vp 6 0)], [(0, bx 143 [tl qJ default a3, tl qA default a4, cb a5, ci a6, ci (w64 (a7 + 1)), .emp, .own 1 0 4 a8.length]), (1, ro 0 28 4 a8.length (rf qE a8)), (4, bx 28 (qE x36)), (5, bx 28 (qE x35)), (6, bx 28 (qE x34))]⟩
def GG (a1 : Rect) (a2 : Int) (a3 : List Node) (a4 : List Product) (a5 : Bool) (a6 : Int) (a7 : Int) (a8 : List Rect) (x25 : Bool) : St :=
 ⟨[(0, vp 0 0), (2, vi a2), (4, vp 2 0), (7, vp 3 0), (8, vp 4 0), (9, vp 5 0), (10, vp 6 0), (112, vb x25)], [(0, bx 143 [tl qJ default a3, tl qA default a4, cb a5, ci a6, ci (w64 (a7 + 1)), .emp, .own 1 0 4 a8.length]), (1, ro 0 28 4 a8.length (rf qE a8)), (2, bx 28 (qE a1)), (3, bx 65 [ci ((a3.getD a7.toNat default).Kind), ci ((a3.getD a7.toNat default).At)]), (4, bx 28 (qE a1)), (5, bx 28 (qE a1)), (6, bx 28 (qE a1))]⟩
def GL (a1 : Rect) (a2 : Int) (a3 : List Node) (a4 : List Product) (a5 : Bool) (a6 : Int) (a7 : Int) (a8 : List Rect) (x30 : Bool) : St :=
 ⟨[(0, vp 0 0), (2, vi a2), (4, vp 2 0), (7, vp 3 0), (8, vp 4 0), (9, vp 5 0), (10, vp 6 0), (142, vb x30)], [(0, bx 143 [tl qJ default a3, tl qA default a4, cb a5, ci a6, ci (w64 (a7 + 1)), .emp, .own 1 0 4 a8.length]), (1, ro 0 28 4 a8.length (rf qE a8)), (2, bx 28 (qE a1)), (3, bx 65 [ci ((a3.getD a7.toNat default).Kind), ci ((a3.getD a7.toNat default).At)]), (4, bx 28 (qE a1)), (5, bx 28 (qE a1)), (6, bx 28 (qE a1))]⟩
def GU (a1 : Rect) (a2 : Int) (a3 : List Node) (a4 : List Product) (a5 : Bool) (a6 : Int) (a7 : Int) (a8 : List Rect) (x14 : Bool) : St :=
 ⟨[(0, vp 0 0), (2, vi a2), (4, vp 2 0), (7, vp 3 0), (56, vb x14)], [(0, bx 143 [tl qJ default a3, tl qA default a4, cb a5, ci a6, ci (w64 (a7 + 1)), .emp, .own 1 0 4 a8.length]), (1, ro 0 28 4 a8.length (rf qE a8)), (2, bx 28 (qE a1)), (3, bx 65 [ci ((a3.getD a7.toNat default).Kind), ci ((a3.getD a7.toNat default).At)])]⟩
theorem qAv : ∀ (n : Nat) (a1 : Rect) (a2 : Int) (a3 : List Node) (a4 : List Product) (a5 : Bool) (a6 : Int) (a7 : Int) (a8 : List Rect) (r : Int × Int × (List Leaf) × (List Rect)) (hm : qX n a1 a2 a3 a4 a5 a6 a7 a8 = some r), CtX Tryz.prog globs 76 2 1 [.one (.bptr 0 0 0), .agg (qE a1), .one (ci a2)] [(0, bx 143 [tl qJ default a3, tl qA default a4, cb a5, ci a6, ci a7, .emp, .own 1 0 4 a8.length]), (1, ro 0 28 4 a8.length (rf qE a8))] (WE a1 a2 a3 a4 a5 a6 a7 a8 r) (ZZ a1 a2 a3 a4 a5 a6 a7 a8 r) := by
 intro n
 induction n with
 | zero =>
  intro a1 a2 a3 a4 a5 a6 a7 a8 r hm
  cases hm
 | succ n ih =>
  intro a1 a2 a3 a4 a5 a6 a7 a8 r hm
  refine q_E Tryz.f76 182 fun E => ?_
  refine q_sq ?_
  refine q_vn [] 2 ⟨[(0, vp 0 0), (2, vi a2), (4, vp 2 0)], [(0, bx 143 [tl qJ default a3, tl qA default a4, cb a5, ci a6, ci a7, .emp, .own 1 0 4 a8.length]), (1, ro 0 28 4 a8.length (rf qE a8)), (2, bx 28 (qE a1))]⟩ ?_
  refine q_sq ?_
  refine q_sq ?_
  refine q_du [] [0, 1, 3, 7, 0, 16, 48, 112, 240, 511] 3 [] [(21, vb (decide (a7 ≥ ((a3.length : Nat) : Int))))] [] [] ?_
  refine q_cn (decide (a7 ≥ ((a3.length : Nat) : Int))) (fun b9 => ?_) (fun b9 => ?_)
  ·replace hm := qC b9 hm
   refine q_sq ?_
   refine q_vu [] 3 [0, 2, 4, 21] [(6, vi 3)] [2] [] ?_
   refine q_fn [.ownB 0 5 3 78 5 (rf qF ([] : List Leaf))] ⟨[(6, vi 3)], [(0, bx 143 [tl qJ default a3, tl qA default a4, cb a5, ci a6, ci a7, .own 3 0 5 0, .own 1 0 4 a8.length]), (1, ro 0 28 4 a8.length (rf qE a8)), (3, ro 0 78 5 0 (rf qF ([] : List Leaf)))]⟩ o0 ?_
   refine q_fn [.len 3 (([] : List Leaf).length)] ⟨[(6, vi 3)], [(0, bx 143 [tl qJ default a3, tl qA default a4, cb a5, ci a6, ci a7, .own 3 0 5 (([] : List Leaf).length), .own 1 0 4 a8.length]), (1, ro 0 28 4 a8.length (rf qE a8)), (3, ro 0 78 5 (([] : List Leaf).length) (rf qF ([] : List Leaf)))]⟩ (o1 (And.intro (show 0 = ([] : List Leaf).length from rfl) (show 0 = ([] : List Leaf).length from rfl))) ?_
   obtain rfl := Option.some.inj hm
   refine qT 3 2 (by kernel_rfl) ?_
   refine q_rt ?_
   exact q_rm
  ·replace hm := qB b9 hm
   refine q_sk ?_
   refine q_sq ?_
   obtain ⟨g10, hm⟩ := qL hm
   refine q_du [qd 8 (Dir.none) (inb_of g10)] [0, 1, 3, 7, 0, 16, 48, 112, 255, 511, 0, 2047] 3 [21] [(7, vp 3 0)] [] [(3, bx 65 [ci ((a3.getD a7.toNat default).Kind), ci ((a3.getD a7.toNat default).At)])] ?_
   refine q_sq ?_
   refine q_vu [] 4 [] [] [0] [(0, bx 143 [tl qJ default a3, tl qA default a4, cb a5, ci a6, ci (w64 (a7 + 1)), .emp, .own 1 0 4 a8.length])] ?_
   refine q_sq ?_
   refine q_jn (ι := Bool) (fun p => GU a1 a2 a3 a4 a5 a6 a7 a8 p) (fun p => yH a1 a2 a3 a4 a5 a6 a7 a8 (qX n) p = some r) ?_ ?_
   ·rintro x14 hm
    show H _ (GU a1 a2 a3 a4 a5 a6 a7 a8 x14) _ _
    refine q_cn x14 (fun b15 => ?_) (fun b15 => ?_)
    ·replace hm := qC b15 hm
     refine q_sq ?_
     refine q_vu [] 4 [0, 2, 4, 7, 56] [(6, vi 10)] [2, 3] [] ?_
     refine q_fn [.ownB 0 5 4 78 5 (rf qF ([] : List Leaf))] ⟨[(6, vi 10)], [(0, bx 143 [tl qJ default a3, tl qA default a4, cb a5, ci a6, ci (w64 (a7 + 1)), .own 4 0 5 0, .own 1 0 4 a8.length]), (1, ro 0 28 4 a8.length (rf qE a8)), (4, ro 0 78 5 0 (rf qF ([] : List Leaf)))]⟩ o0 ?_
     refine q_fn [.len 4 (([] : List Leaf).length)] ⟨[(6, vi 10)], [(0, bx 143 [tl qJ default a3, tl qA default a4, cb a5, ci a6, ci (w64 (a7 + 1)), .own 4 0 5 (([] : List Leaf).length), .own 1 0 4 a8.length]), (1, ro 0 28 4 a8.length (rf qE a8)), (4, ro 0 78 5 (([] : List Leaf).length) (rf qF ([] : List Leaf)))]⟩ (o1 (And.intro (show 0 = ([] : List Leaf).length from rfl) (show 0 = ([] : List Leaf).length from rfl))) ?_
     obtain rfl := Option.some.inj hm
     refine qT 4 2 (by kernel_rfl) ?_
     refine q_rt ?_
     exact q_rm
    ·replace hm := qB b15 hm
     refine q_sk ?_
     refine q_sq ?_
     refine q_sq ?_
     refine q_vu [] 4 [56] [(58, vb (decide (a2 > 64)))] [] [] ?_
     refine q_cn (decide (a2 > 64)) (fun b16 => ?_) (fun b16 => ?_)
     ·replace hm := qC b16 hm
      refine q_sq ?_
      refine q_vu [] 4 [0, 2, 4, 7, 58] [(6, vi 28)] [2, 3] [] ?_
      refine q_fn [.ownB 0 5 4 78 5 (rf qF ([] : List Leaf))] ⟨[(6, vi 28)], [(0, bx 143 [tl qJ default a3, tl qA default a4, cb a5, ci a6, ci (w64 (a7 + 1)), .own 4 0 5 0, .own 1 0 4 a8.length]), (1, ro 0 28 4 a8.length (rf qE a8)), (4, ro 0 78 5 0 (rf qF ([] : List Leaf)))]⟩ o0 ?_
      refine q_fn [.len 4 (([] : List Leaf).length)] ⟨[(6, vi 28)], [(0, bx 143 [tl qJ default a3, tl qA default a4, cb a5, ci a6, ci (w64 (a7 + 1)), .own 4 0 5 (([] : List Leaf).length), .own 1 0 4 a8.length]), (1, ro 0 28 4 a8.length (rf qE a8)), (4, ro 0 78 5 (([] : List Leaf).length) (rf qF ([] : List Leaf)))]⟩ (o1 (And.intro (show 0 = ([] : List Leaf).length from rfl) (show 0 = ([] : List Leaf).length from rfl))) ?_
      obtain rfl := Option.some.inj hm
      refine qT 4 2 (by kernel_rfl) ?_
      refine q_rt ?_
      exact q_rm
     ·replace hm := qB b16 hm
      refine q_sk ?_
      refine q_sq ?_
      refine q_sq ?_
      refine q_vu [] 4 [58] [(60, vi ((a3.getD a7.toNat default).Kind))] [] [] ?_
      refine q_bk 0 ?_
      refine q_sq ?_
      refine q_vu [] 4 [] [(61, vb (((a3.getD a7.toNat default).Kind) == 0))] [] [] ?_
      refine q_cn (((a3.getD a7.toNat default).Kind) == 0) (fun b17 => ?_) (fun b17 => ?_)
      ·replace hm := qC b17 hm
       refine q_sq ?_
       obtain ⟨g18, hm⟩ := qL hm
       refine q_du [qd 7 (drw 4 0 (rf qF ([(Leaf.mk a1 (-1))] : List Leaf))) (litP qF default 5 (fun _ => rfl) ([(Leaf.mk a1 (-1))] : List Leaf) 1 rfl), qd 8 (drw 5 0 (rf qF ([(Leaf.mk a1 (-1))] : List Leaf))) (apP0 qF default ([(Leaf.mk a1 (-1))] : List Leaf) 1 5 40 (1 ≤ 1) (Nat.le_refl _) (fun _ => rfl) (wL g18))] [0, 0, 2, 6, 14, 0, 32, 96, 254, 511, 1023, 2047] 4 [0, 2, 4, 7, 60, 61] [] [0, 2, 3] [(0, bx 143 [tl qJ default a3, tl qA default a4, cb a5, ci a6, ci (w64 (a7 + 1)), .own 5 0 5 1, .own 1 0 4 a8.length]), (5, ro 0 78 5 1 (rf qF ([(Leaf.mk a1 (-1))] : List Leaf)))] ?_
       refine q_sq ?_
       refine q_vu [] 6 [] [(6, vi 0)] [] [] ?_
       refine q_fn [.len 5 (([(Leaf.mk a1 (-1))] : List Leaf).length)] ⟨[(6, vi 0)], [(0, bx 143 [tl qJ default a3, tl qA default a4, cb a5, ci a6, ci (w64 (a7 + 1)), .own 5 0 5 (([(Leaf.mk a1 (-1))] : List Leaf).length), .own 1 0 4 a8.length]), (1, ro 0 28 4 a8.length (rf qE a8)), (5, ro 0 78 5 (([(Leaf.mk a1 (-1))] : List Leaf).length) (rf qF ([(Leaf.mk a1 (-1))] : List Leaf)))]⟩ (o1 (And.intro (show 1 = ([(Leaf.mk a1 (-1))] : List Leaf).length from rfl) (show 1 = ([(Leaf.mk a1 (-1))] : List Leaf).length from rfl))) ?_
       obtain rfl := Option.some.inj hm
       refine qT 5 2 (by kernel_rfl) ?_
       refine q_rt ?_
       exact q_rm
      ·replace hm := qB b17 hm
       refine q_sq ?_
       refine q_vu [] 4 [60, 61] [(74, vb (((a3.getD a7.toNat default).Kind) == 1))] [] [] ?_
       refine q_cn (((a3.getD a7.toNat default).Kind) == 1) (fun b19 => ?_) (fun b19 => ?_)
       ·replace hm := qC b19 hm
        refine q_sq ?_
        obtain ⟨g20, hm⟩ := qL hm
        refine q_du [qd 9 (drw 4 0 (rf qF ([(Leaf.mk a1 ((a3.getD a7.toNat default).At))] : List Leaf))) (litP qF default 5 (fun _ => rfl) ([(Leaf.mk a1 ((a3.getD a7.toNat default).At))] : List Leaf) 1 rfl), qd 10 (drw 5 0 (rf qF ([(Leaf.mk a1 ((a3.getD a7.toNat default).At))] : List Leaf))) (apP0 qF default ([(Leaf.mk a1 ((a3.getD a7.toNat default).At))] : List Leaf) 1 5 40 (1 ≤ 1) (Nat.le_refl _) (fun _ => rfl) (wL g20))] [0, 0, 2, 6, 14, 0, 0, 64, 224, 480, 1022, 2047, 4095, 8191] 4 [2, 74] [] [0] [(0, bx 143 [tl qJ default a3, tl qA default a4, cb a5, ci a6, ci (w64 (a7 + 1)), .own 5 0 5 1, .own 1 0 4 a8.length]), (5, ro 0 78 5 1 (rf qF ([(Leaf.mk a1 ((a3.getD a7.toNat default).At))] : List Leaf)))] ?_
        refine q_sq ?_
        obtain ⟨v21, h22, hm⟩ := qD hm
        refine q_vn [qd 3 (dpr [.len 5 (([(Leaf.mk a1 ((a3.getD a7.toNat default).At))] : List Leaf).length)] (dex (cen [(0, 0), (5, 0), (1, 0)] [0, 1, 1] 3 1 (XC (a3.getD a7.toNat default) a1 a3 a4 a5 a6 (w64 (a7 + 1)) ([(Leaf.mk a1 ((a3.getD a7.toNat default).At))] : List Leaf) a8 v21) (XD (a3.getD a7.toNat default) a1 a3 a4 a5 a6 (w64 (a7 + 1)) ([(Leaf.mk a1 ((a3.getD a7.toNat default).At))] : List Leaf) a8 v21) [89, 90, 91] [0, 5, 1]))) (And.intro (show 1 = ([(Leaf.mk a1 ((a3.getD a7.toNat default).At))] : List Leaf).length from rfl) (show 1 = ([(Leaf.mk a1 ((a3.getD a7.toNat default).At))] : List Leaf).length from rfl)), qd 3 (Dir.none) (jI (K := (kx E 182 1)) ⟨[(89, vp 0 0), (90, va [ci ((a3.getD a7.toNat default).Kind), ci ((a3.getD a7.toNat default).At)]), (91, va (qE a1))], [(0, bx 143 [tl qJ default a3, tl qA default a4, cb a5, ci a6, ci (w64 (a7 + 1)), .own 5 0 5 (([(Leaf.mk a1 ((a3.getD a7.toNat default).At))] : List Leaf).length), .own 1 0 4 a8.length]), (5, ro 0 78 5 (([(Leaf.mk a1 ((a3.getD a7.toNat default).At))] : List Leaf).length) (rf qF ([(Leaf.mk a1 ((a3.getD a7.toNat default).At))] : List Leaf))), (1, ro 0 28 4 a8.length (rf qE a8))]⟩ (opAt (rg Tryz.f76 65210) 3) [(0, 0), (5, 0), (1, 0)] [0, 1, 1] 3 o0 rfl (BK (a3.getD a7.toNat default) a1 a3 a4 a5 a6 (w64 (a7 + 1)) ([(Leaf.mk a1 ((a3.getD a7.toNat default).At))] : List Leaf) a8 v21 h22) (.inl rfl) (by kernel_rfl))] 6 ⟨[(6, vi v21)], [(0, bx 143 [tl qJ default a3, tl qA default a4, cb a5, ci a6, ci (w64 (a7 + 1)), .own 5 1 5 (([(Leaf.mk a1 ((a3.getD a7.toNat default).At))] : List Leaf).length), .own 1 1 4 a8.length]), (1, ro 1 28 4 a8.length (rf qE a8)), (5, ro 1 78 5 (([(Leaf.mk a1 ((a3.getD a7.toNat default).At))] : List Leaf).length) (rf qF ([(Leaf.mk a1 ((a3.getD a7.toNat default).At))] : List Leaf)))]⟩ ?_
        obtain rfl := Option.some.inj hm
        refine qT 5 2 (by kernel_rfl) ?_
        refine q_rt ?_
        exact q_rm
       ·replace hm := qB b19 hm
        refine q_sk ?_
        refine q_sq ?_
        refine q_du [] [0, 0, 0, 0, 0, 0, 57, 123, 255] 4 [74] [(8, vp 4 0), (9, vp 5 0), (10, vp 6 0)] [] [(4, bx 28 (qE a1)), (5, bx 28 (qE a1)), (6, bx 28 (qE a1))] ?_
        refine q_jn (ι := Rect × Rect × Rect) (fun p => VL a2 a3 a4 a5 a6 a7 a8 p.1 p.2.1 p.2.2) (fun p => XG a2 a3 a4 a5 a6 a7 a8 (qX n) p.1 p.2.1 p.2.2 = some r) ?_ ?_
        ·rintro ⟨x34, x35, x36⟩ hm
         show H _ (VL a2 a3 a4 a5 a6 a7 a8 x34 x35 x36) _ _
         refine q_sq ?_
         obtain ⟨g37, hm⟩ := qL hm
         refine q_du [qd 6 (drw 7 0 (rf qE ([x35] : List Rect))) (litP qE default 4 (fun _ => rfl) ([x35] : List Rect) 1 rfl), qd 7 (drw 1 1 (rf qE (a8 ++ ([x35] : List Rect)))) (apP qE default a8 ([x35] : List Rect) a8.length 1 4 32 (1 ≤ 1) (Nat.le_refl _) rfl rfl (fun _ => rfl) (wL g37))] [0, 0, 2, 6, 14, 0, 32, 126, 255, 511, 1023] 7 [9] [] [0, 1, 5] [(0, bx 143 [tl qJ default a3, tl qA default a4, cb a5, ci a6, ci (w64 (a7 + 1)), .emp, .own 1 1 4 (a8.length + 1)]), (1, ro 1 28 4 (a8.length + 1) (rf qE (a8 ++ ([x35] : List Rect))))] ?_
         refine q_sq ?_
         refine q_sq ?_
         obtain ⟨v38, h39, hm⟩ := qD hm
         refine q_vu [qd 4 (dpr [.len 1 ((a8 ++ ([x35] : List Rect)).length)] (dex (cen [(0, 0), (1, 1)] [0, 2] 6 1 (WE x36 (w64 (a2 + 1)) a3 a4 a5 a6 (w64 (a7 + 1)) (a8 ++ ([x35] : List Rect)) v38) (ZZ x36 (w64 (a2 + 1)) a3 a4 a5 a6 (w64 (a7 + 1)) (a8 ++ ([x35] : List Rect)) v38) [169, 170, 172] [0, 1]))) (And.intro (Eq.symm (show (a8 ++ ([x35] : List Rect)).length = (a8.length + 1) from (len_app rfl rfl))) (Eq.symm (show (a8 ++ ([x35] : List Rect)).length = (a8.length + 1) from (len_app rfl rfl)))), qd 4 (Dir.none) (jI (K := (kx E 182 1)) ⟨[(169, vp 0 0), (170, va (qE x36)), (172, vi (w64 (a2 + 1)))], [(0, bx 143 [tl qJ default a3, tl qA default a4, cb a5, ci a6, ci (w64 (a7 + 1)), .emp, .own 1 1 4 ((a8 ++ ([x35] : List Rect)).length)]), (1, ro 1 28 4 ((a8 ++ ([x35] : List Rect)).length) (rf qE (a8 ++ ([x35] : List Rect))))]⟩ (opAt (rg Tryz.f76 8188) 4) [(0, 0), (1, 1)] [0, 2] 6 o0 rfl (ih x36 (w64 (a2 + 1)) a3 a4 a5 a6 (w64 (a7 + 1)) (a8 ++ ([x35] : List Rect)) v38 h39) (.inl rfl) (by kernel_rfl))] 8 [8] [(11, vi v38.1)] [0, 1, 4] [(0, bx 143 [tl qJ default a3, tl qA default a4, cb a5, ci a6, ci v38.2.1, .own 8 0 5 v38.2.2.1.length, .own 1 2 4 v38.2.2.2.length]), (1, ro 2 28 4 v38.2.2.2.length (rf qE v38.2.2.2)), (8, ro 0 78 5 v38.2.2.1.length (rf qF v38.2.2.1))] ?_
         refine q_sq ?_
         refine q_vu [] 9 [] [(175, vb (v38.1 != 0))] [] [] ?_
         refine q_cn (v38.1 != 0) (fun b40 => ?_) (fun b40 => ?_)
         ·replace hm := qC b40 hm
          refine q_sq ?_
          refine q_vu [] 9 [0, 2, 10, 11, 175] [(6, vi v38.1)] [6] [] ?_
          obtain rfl := Option.some.inj hm
          refine qT 8 2 (by kernel_rfl) ?_
          refine q_rt ?_
          exact q_rm
         ·replace hm := qB b40 hm
          refine q_sk ?_
          refine q_sq ?_
          obtain ⟨v41, h42, hm⟩ := qD hm
          refine q_vn [qd 4 (dex (cen [(0, 0), (8, 0), (1, 2)] [0, 1, 3] 6 1 (jE x34 (w64 (a2 + 1)) a3 a4 a5 a6 v38.2.1 v38.2.2.1 v38.2.2.2 v41) (jD x34 (w64 (a2 + 1)) a3 a4 a5 a6 v38.2.1 v38.2.2.1 v38.2.2.2 v41) [177, 178, 180] [0, 8, 1])) (jI (K := (kx E 182 1)) ⟨[(177, vp 0 0), (178, va (qE x34)), (180, vi (w64 (a2 + 1)))], [(0, bx 143 [tl qJ default a3, tl qA default a4, cb a5, ci a6, ci v38.2.1, .own 8 0 5 v38.2.2.1.length, .own 1 2 4 v38.2.2.2.length]), (8, ro 0 78 5 v38.2.2.1.length (rf qF v38.2.2.1)), (1, ro 2 28 4 v38.2.2.2.length (rf qE v38.2.2.2))]⟩ (opAt (rg Tryz.f76 8190) 4) [(0, 0), (8, 0), (1, 2)] [0, 1, 3] 6 o0 rfl (NR x34 (w64 (a2 + 1)) a3 a4 a5 a6 v38.2.1 v38.2.2.1 v38.2.2.2 v41 h42) (.inl rfl) (by kernel_rfl))] 9 ⟨[(6, vi v41.1)], [(0, bx 143 [tl qJ default a3, tl qA default a4, cb a5, ci a6, ci v41.2.1, .own 8 1 5 v41.2.2.1.length, .own 1 3 4 v41.2.2.2.length]), (1, ro 3 28 4 v41.2.2.2.length (rf qE v41.2.2.2)), (8, ro 1 78 5 v41.2.2.1.length (rf qF v41.2.2.1))]⟩ ?_
          obtain rfl := Option.some.inj hm
          refine qT 8 2 (by kernel_rfl) ?_
          refine q_rt ?_
          exact q_rm
        ·refine q_sq ?_
         refine q_vu [] 7 [] [(98, vb (((a3.getD a7.toNat default).Kind) == 2))] [] [] ?_
         refine q_cn (((a3.getD a7.toNat default).Kind) == 2) (fun b23 => ?_) (fun b23 => ?_)
         ·replace hm := qC b23 hm
          refine q_sq ?_
          refine q_jn (ι := Bool) (fun p => GG a1 a2 a3 a4 a5 a6 a7 a8 p) (fun p => XI a1 a2 a3 a4 a5 a6 a7 a8 (qX n) p = some r) ?_ ?_
          ·rintro x25 hm
           show H _ (GG a1 a2 a3 a4 a5 a6 a7 a8 x25) _ _
           refine q_cn x25 (fun b26 => ?_) (fun b26 => ?_)
           ·replace hm := qC b26 hm
            refine q_sq ?_
            refine q_vu [] 7 [0, 2, 4, 7, 8, 9, 10, 112] [(6, vi 20)] [2, 3, 4, 5, 6] [] ?_
            refine q_fn [.ownB 0 5 7 78 5 (rf qF ([] : List Leaf))] ⟨[(6, vi 20)], [(0, bx 143 [tl qJ default a3, tl qA default a4, cb a5, ci a6, ci (w64 (a7 + 1)), .own 7 0 5 0, .own 1 0 4 a8.length]), (1, ro 0 28 4 a8.length (rf qE a8)), (7, ro 0 78 5 0 (rf qF ([] : List Leaf)))]⟩ o0 ?_
            refine q_fn [.len 7 (([] : List Leaf).length)] ⟨[(6, vi 20)], [(0, bx 143 [tl qJ default a3, tl qA default a4, cb a5, ci a6, ci (w64 (a7 + 1)), .own 7 0 5 (([] : List Leaf).length), .own 1 0 4 a8.length]), (1, ro 0 28 4 a8.length (rf qE a8)), (7, ro 0 78 5 (([] : List Leaf).length) (rf qF ([] : List Leaf)))]⟩ (o1 (And.intro (show 0 = ([] : List Leaf).length from rfl) (show 0 = ([] : List Leaf).length from rfl))) ?_
            obtain rfl := Option.some.inj hm
            refine qT 7 2 (by kernel_rfl) ?_
            refine q_rt ?_
            exact q_rm
           ·replace hm := qB b26 hm
            refine q_sk ?_
            obtain ⟨v27, h28, hm⟩ := qD hm
            refine q_du [qc 8 [115, 117, 121] 7 (JY a1.X ((a3.getD a7.toNat default).At) a6 v27 h28)] [0, 1, 0, 4, 0, 16, 48, 112, 255, 511, 1023, 1023, 1023, 2047, 10239, 28671, 61439, 131071, 262143] 7 [4, 7, 112] [] [2, 3, 4, 5, 6] [(4, bx 28 [ci v27.1.A, ci v27.1.B, ci a1.Y.A, ci a1.Y.B]), (5, bx 28 [ci v27.2.1.A, ci v27.2.1.B, ci a1.Y.A, ci a1.Y.B]), (6, bx 28 [ci v27.2.2.A, ci v27.2.2.B, ci a1.Y.A, ci a1.Y.B])] ?_
            exact q_J ((Rect.mk v27.2.2 a1.Y), (Rect.mk v27.2.1 a1.Y), (Rect.mk v27.1 a1.Y)) hm
          ·rcases Bool.eq_false_or_eq_true (decide (((a3.getD a7.toNat default).At) ≤ a1.X.A)) with b24 | b24
           ·replace hm := qC b24 hm
            refine q_vu [qf 6 b24] 7 [98] [(112, vb true)] [] [] ?_
            exact q_J (true) hm
           ·replace hm := qB b24 hm
            refine q_vu [qf 6 b24] 7 [98] [(112, vb (decide (((a3.getD a7.toNat default).At) ≥ a1.X.B)))] [] [] ?_
            exact q_J (decide (((a3.getD a7.toNat default).At) ≥ a1.X.B)) hm
         ·replace hm := qB b23 hm
          refine q_sq ?_
          refine q_jn (ι := Bool) (fun p => GL a1 a2 a3 a4 a5 a6 a7 a8 p) (fun p => XF a1 a2 a3 a4 a5 a6 a7 a8 (qX n) p = some r) ?_ ?_
          ·rintro x30 hm
           show H _ (GL a1 a2 a3 a4 a5 a6 a7 a8 x30) _ _
           refine q_cn x30 (fun b31 => ?_) (fun b31 => ?_)
           ·replace hm := qC b31 hm
            refine q_sq ?_
            refine q_vu [] 7 [0, 2, 4, 7, 8, 9, 10, 142] [(6, vi 20)] [2, 3, 4, 5, 6] [] ?_
            refine q_fn [.ownB 0 5 7 78 5 (rf qF ([] : List Leaf))] ⟨[(6, vi 20)], [(0, bx 143 [tl qJ default a3, tl qA default a4, cb a5, ci a6, ci (w64 (a7 + 1)), .own 7 0 5 0, .own 1 0 4 a8.length]), (1, ro 0 28 4 a8.length (rf qE a8)), (7, ro 0 78 5 0 (rf qF ([] : List Leaf)))]⟩ o0 ?_
            refine q_fn [.len 7 (([] : List Leaf).length)] ⟨[(6, vi 20)], [(0, bx 143 [tl qJ default a3, tl qA default a4, cb a5, ci a6, ci (w64 (a7 + 1)), .own 7 0 5 (([] : List Leaf).length), .own 1 0 4 a8.length]), (1, ro 0 28 4 a8.length (rf qE a8)), (7, ro 0 78 5 (([] : List Leaf).length) (rf qF ([] : List Leaf)))]⟩ (o1 (And.intro (show 0 = ([] : List Leaf).length from rfl) (show 0 = ([] : List Leaf).length from rfl))) ?_
            obtain rfl := Option.some.inj hm
            refine qT 7 2 (by kernel_rfl) ?_
            refine q_rt ?_
            exact q_rm
           ·replace hm := qB b31 hm
            refine q_sk ?_
            obtain ⟨v32, h33, hm⟩ := qD hm
            refine q_du [qc 8 [145, 147, 151] 7 (JY a1.Y ((a3.getD a7.toNat default).At) a6 v32 h33)] [0, 1, 0, 4, 0, 16, 48, 112, 255, 511, 1023, 1023, 1023, 2047, 10239, 28671, 61439, 131071, 262143] 7 [4, 7, 142] [] [2, 3, 4, 5, 6] [(4, bx 28 [ci a1.X.A, ci a1.X.B, ci v32.1.A, ci v32.1.B]), (5, bx 28 [ci a1.X.A, ci a1.X.B, ci v32.2.1.A, ci v32.2.1.B]), (6, bx 28 [ci a1.X.A, ci a1.X.B, ci v32.2.2.A, ci v32.2.2.B])] ?_
            exact q_J ((Rect.mk a1.X v32.2.2), (Rect.mk a1.X v32.2.1), (Rect.mk a1.X v32.1)) hm
          ·rcases Bool.eq_false_or_eq_true (decide (((a3.getD a7.toNat default).At) ≤ a1.Y.A)) with b29 | b29
           ·replace hm := qC b29 hm
            refine q_vu [qf 6 b29] 7 [98] [(142, vb true)] [] [] ?_
            exact q_J (true) hm
           ·replace hm := qB b29 hm
            refine q_vu [qf 6 b29] 7 [98] [(142, vb (decide (((a3.getD a7.toNat default).At) ≥ a1.Y.B)))] [] [] ?_
            exact q_J (decide (((a3.getD a7.toNat default).At) ≥ a1.Y.B)) hm
   ·rcases Bool.eq_false_or_eq_true (decide (((a3.getD a7.toNat default).Kind) < 0)) with b11 | b11
    ·replace hm := qC b11 hm
     refine q_vu [qf 3 b11] 4 [] [(56, vb true)] [] [] ?_
     exact q_J (true) hm
    ·replace hm := qB b11 hm
     rcases Bool.eq_false_or_eq_true (decide (((a3.getD a7.toNat default).Kind) > 3)) with b12 | b12
     ·replace hm := qC b12 hm
      refine q_vu [qf 3 b11, qf 8 b12] 4 [] [(56, vb true)] [] [] ?_
      exact q_J (true) hm
     ·replace hm := qB b12 hm
      rcases Bool.eq_false_or_eq_true (((a3.getD a7.toNat default).Kind) == 0) with b13 | b13
      ·replace hm := qC b13 hm
       refine q_vu [qf 3 b11, qf 8 b12, qf 12 b13] 4 [] [(56, vb (((a3.getD a7.toNat default).At) != 0))] [] [] ?_
       exact q_J (((a3.getD a7.toNat default).At) != 0) hm
      ·replace hm := qB b13 hm
       refine q_vu [qf 3 b11, qf 8 b12, qf 12 b13] 4 [] [(56, vb false)] [] [] ?_
       exact q_J (false) hm
theorem qBO (a1 : Rect) (a2 : Int) (a3 : List Node) (a4 : List Product) (a5 : Bool) (a6 : Int) (a7 : Int) (a8 : List Rect) (r : Int × Int × (List Leaf) × (List Rect)) (hm : SD a1 a2 a3 a4 a5 a6 a7 a8 = some r) : CtX Tryz.prog globs 76 2 1 [.one (.bptr 0 0 0), .agg (qE a1), .one (ci a2)] [(0, bx 143 [tl qJ default a3, tl qA default a4, cb a5, ci a6, ci a7, .emp, .own 1 0 4 a8.length]), (1, ro 0 28 4 a8.length (rf qE a8))] (WE a1 a2 a3 a4 a5 a6 a7 a8 r) (ZZ a1 a2 a3 a4 a5 a6 a7 a8 r) := by
 exact qAv FUEL a1 a2 a3 a4 a5 a6 a7 a8 r hm
def EZ (a1 : Rect) (a2 : Int) (a3 : List Node) (a4 : List Product) (a5 : Bool) (a6 : Int) (a7 : Int) (r : Int × Int × (List Leaf) × (List Rect)) : V := vi r.1
def EP (a1 : Rect) (a2 : Int) (a3 : List Node) (a4 : List Product) (a5 : Bool) (a6 : Int) (a7 : Int) (r : Int × Int × (List Leaf) × (List Rect)) : List (Nat × (Nat × O)) := [(0, bx 143 [tl qJ default a3, tl qA default a4, cb a5, ci a6, ci r.2.1, .own 1 0 5 r.2.2.1.length, .own 2 0 4 r.2.2.2.length]), (1, ro 0 78 5 r.2.2.1.length (rf qF r.2.2.1)), (2, ro 0 28 4 r.2.2.2.length (rf qE r.2.2.2))]
def LC (a2 : Int) (a3 : List Node) (a4 : List Product) (a5 : Bool) (a6 : Int) (a7 : Int) (x33 : Rect) (x34 : Rect) (x35 : Rect) : St :=
 ⟨[(0, vp 0 0), (2, vi a2), (8, vp 3 0), (9, vp 4 0), (10, vp 5 0)], [(0, bx 143 [tl qJ default a3, tl qA default a4, cb a5, ci a6, ci (w64 (a7 + 1)), .emp, .emp]), (3, bx 28 (qE x35)), (4, bx 28 (qE x34)), (5, bx 28 (qE x33))]⟩
def LJ (a1 : Rect) (a2 : Int) (a3 : List Node) (a4 : List Product) (a5 : Bool) (a6 : Int) (a7 : Int) (x24 : Bool) : St :=
 ⟨[(0, vp 0 0), (2, vi a2), (4, vp 1 0), (7, vp 2 0), (8, vp 3 0), (9, vp 4 0), (10, vp 5 0), (112, vb x24)], [(0, bx 143 [tl qJ default a3, tl qA default a4, cb a5, ci a6, ci (w64 (a7 + 1)), .emp, .emp]), (1, bx 28 (qE a1)), (2, bx 65 [ci ((a3.getD a7.toNat default).Kind), ci ((a3.getD a7.toNat default).At)]), (3, bx 28 (qE a1)), (4, bx 28 (qE a1)), (5, bx 28 (qE a1))]⟩
def LA (a1 : Rect) (a2 : Int) (a3 : List Node) (a4 : List Product) (a5 : Bool) (a6 : Int) (a7 : Int) (x29 : Bool) : St :=
 ⟨[(0, vp 0 0), (2, vi a2), (4, vp 1 0), (7, vp 2 0), (8, vp 3 0), (9, vp 4 0), (10, vp 5 0), (142, vb x29)], [(0, bx 143 [tl qJ default a3, tl qA default a4, cb a5, ci a6, ci (w64 (a7 + 1)), .emp, .emp]), (1, bx 28 (qE a1)), (2, bx 65 [ci ((a3.getD a7.toNat default).Kind), ci ((a3.getD a7.toNat default).At)]), (3, bx 28 (qE a1)), (4, bx 28 (qE a1)), (5, bx 28 (qE a1))]⟩
def FQ (a1 : Rect) (a2 : Int) (a3 : List Node) (a4 : List Product) (a5 : Bool) (a6 : Int) (a7 : Int) (x13 : Bool) : St :=
 ⟨[(0, vp 0 0), (2, vi a2), (4, vp 1 0), (7, vp 2 0), (56, vb x13)], [(0, bx 143 [tl qJ default a3, tl qA default a4, cb a5, ci a6, ci (w64 (a7 + 1)), .emp, .emp]), (1, bx 28 (qE a1)), (2, bx 65 [ci ((a3.getD a7.toNat default).Kind), ci ((a3.getD a7.toNat default).At)])]⟩
theorem qDA (a1 : Rect) (a2 : Int) (a3 : List Node) (a4 : List Product) (a5 : Bool) (a6 : Int) (a7 : Int) (r : Int × Int × (List Leaf) × (List Rect)) (hm : JI a1 a2 a3 a4 a5 a6 a7 = some r) : CtX Tryz.prog globs 76 1 1 [.one (.bptr 0 0 0), .agg (qE a1), .one (ci a2)] [(0, bx 143 [tl qJ default a3, tl qA default a4, cb a5, ci a6, ci a7, .emp, .emp])] (EZ a1 a2 a3 a4 a5 a6 a7 r) (EP a1 a2 a3 a4 a5 a6 a7 r) := by
 unfold JI at hm
 refine q_E Tryz.f76 182 fun E => ?_
 refine q_sq ?_
 refine q_vn [] 1 ⟨[(0, vp 0 0), (2, vi a2), (4, vp 1 0)], [(0, bx 143 [tl qJ default a3, tl qA default a4, cb a5, ci a6, ci a7, .emp, .emp]), (1, bx 28 (qE a1))]⟩ ?_
 refine q_sq ?_
 refine q_sq ?_
 refine q_du [] [0, 1, 3, 7, 0, 16, 48, 112, 240, 511] 2 [] [(21, vb (decide (a7 ≥ ((a3.length : Nat) : Int))))] [] [] ?_
 refine q_cn (decide (a7 ≥ ((a3.length : Nat) : Int))) (fun b8 => ?_) (fun b8 => ?_)
 ·replace hm := qC b8 hm
  refine q_sq ?_
  refine q_vu [] 2 [0, 2, 4, 21] [(6, vi 3)] [1] [] ?_
  refine q_fn [.ownB 0 5 2 78 5 (rf qF ([] : List Leaf))] ⟨[(6, vi 3)], [(0, bx 143 [tl qJ default a3, tl qA default a4, cb a5, ci a6, ci a7, .own 2 0 5 0, .emp]), (2, ro 0 78 5 0 (rf qF ([] : List Leaf)))]⟩ o0 ?_
  refine q_fn [.ownB 0 6 3 28 4 (rf qE ([] : List Rect))] ⟨[(6, vi 3)], [(0, bx 143 [tl qJ default a3, tl qA default a4, cb a5, ci a6, ci a7, .own 2 0 5 0, .own 3 0 4 0]), (2, ro 0 78 5 0 (rf qF ([] : List Leaf))), (3, ro 0 28 4 0 (rf qE ([] : List Rect)))]⟩ o0 ?_
  refine q_fn [.len 2 (([] : List Leaf).length)] ⟨[(6, vi 3)], [(0, bx 143 [tl qJ default a3, tl qA default a4, cb a5, ci a6, ci a7, .own 2 0 5 (([] : List Leaf).length), .own 3 0 4 0]), (2, ro 0 78 5 (([] : List Leaf).length) (rf qF ([] : List Leaf))), (3, ro 0 28 4 0 (rf qE ([] : List Rect)))]⟩ (o1 (And.intro (show 0 = ([] : List Leaf).length from rfl) (show 0 = ([] : List Leaf).length from rfl))) ?_
  refine q_fn [.len 3 (([] : List Rect).length)] ⟨[(6, vi 3)], [(0, bx 143 [tl qJ default a3, tl qA default a4, cb a5, ci a6, ci a7, .own 2 0 5 (([] : List Leaf).length), .own 3 0 4 (([] : List Rect).length)]), (2, ro 0 78 5 (([] : List Leaf).length) (rf qF ([] : List Leaf))), (3, ro 0 28 4 (([] : List Rect).length) (rf qE ([] : List Rect)))]⟩ (o1 (And.intro (show 0 = ([] : List Rect).length from rfl) (show 0 = ([] : List Rect).length from rfl))) ?_
  obtain rfl := Option.some.inj hm
  refine qT 2 1 (by kernel_rfl) ?_
  refine qT 3 2 (by kernel_rfl) ?_
  refine q_rt ?_
  exact q_rm
 ·replace hm := qB b8 hm
  refine q_sk ?_
  refine q_sq ?_
  obtain ⟨g9, hm⟩ := qL hm
  refine q_du [qd 8 (Dir.none) (inb_of g9)] [0, 1, 3, 7, 0, 16, 48, 112, 255, 511, 0, 2047] 2 [21] [(7, vp 2 0)] [] [(2, bx 65 [ci ((a3.getD a7.toNat default).Kind), ci ((a3.getD a7.toNat default).At)])] ?_
  refine q_sq ?_
  refine q_vu [] 3 [] [] [0] [(0, bx 143 [tl qJ default a3, tl qA default a4, cb a5, ci a6, ci (w64 (a7 + 1)), .emp, .emp])] ?_
  refine q_sq ?_
  refine q_jn (ι := Bool) (fun p => FQ a1 a2 a3 a4 a5 a6 a7 p) (fun p => QK a1 a2 a3 a4 a5 a6 a7 p = some r) ?_ ?_
  ·rintro x13 hm
   show H _ (FQ a1 a2 a3 a4 a5 a6 a7 x13) _ _
   refine q_cn x13 (fun b14 => ?_) (fun b14 => ?_)
   ·replace hm := qC b14 hm
    refine q_sq ?_
    refine q_vu [] 3 [0, 2, 4, 7, 56] [(6, vi 10)] [1, 2] [] ?_
    refine q_fn [.ownB 0 5 3 78 5 (rf qF ([] : List Leaf))] ⟨[(6, vi 10)], [(0, bx 143 [tl qJ default a3, tl qA default a4, cb a5, ci a6, ci (w64 (a7 + 1)), .own 3 0 5 0, .emp]), (3, ro 0 78 5 0 (rf qF ([] : List Leaf)))]⟩ o0 ?_
    refine q_fn [.ownB 0 6 4 28 4 (rf qE ([] : List Rect))] ⟨[(6, vi 10)], [(0, bx 143 [tl qJ default a3, tl qA default a4, cb a5, ci a6, ci (w64 (a7 + 1)), .own 3 0 5 0, .own 4 0 4 0]), (3, ro 0 78 5 0 (rf qF ([] : List Leaf))), (4, ro 0 28 4 0 (rf qE ([] : List Rect)))]⟩ o0 ?_
    refine q_fn [.len 3 (([] : List Leaf).length)] ⟨[(6, vi 10)], [(0, bx 143 [tl qJ default a3, tl qA default a4, cb a5, ci a6, ci (w64 (a7 + 1)), .own 3 0 5 (([] : List Leaf).length), .own 4 0 4 0]), (3, ro 0 78 5 (([] : List Leaf).length) (rf qF ([] : List Leaf))), (4, ro 0 28 4 0 (rf qE ([] : List Rect)))]⟩ (o1 (And.intro (show 0 = ([] : List Leaf).length from rfl) (show 0 = ([] : List Leaf).length from rfl))) ?_
    refine q_fn [.len 4 (([] : List Rect).length)] ⟨[(6, vi 10)], [(0, bx 143 [tl qJ default a3, tl qA default a4, cb a5, ci a6, ci (w64 (a7 + 1)), .own 3 0 5 (([] : List Leaf).length), .own 4 0 4 (([] : List Rect).length)]), (3, ro 0 78 5 (([] : List Leaf).length) (rf qF ([] : List Leaf))), (4, ro 0 28 4 (([] : List Rect).length) (rf qE ([] : List Rect)))]⟩ (o1 (And.intro (show 0 = ([] : List Rect).length from rfl) (show 0 = ([] : List Rect).length from rfl))) ?_
    obtain rfl := Option.some.inj hm
    refine qT 3 1 (by kernel_rfl) ?_
    refine qT 4 2 (by kernel_rfl) ?_
    refine q_rt ?_
    exact q_rm
   ·replace hm := qB b14 hm
    refine q_sk ?_
    refine q_sq ?_
    refine q_sq ?_
    refine q_vu [] 3 [56] [(58, vb (decide (a2 > 64)))] [] [] ?_
    refine q_cn (decide (a2 > 64)) (fun b15 => ?_) (fun b15 => ?_)
    ·replace hm := qC b15 hm
     refine q_sq ?_
     refine q_vu [] 3 [0, 2, 4, 7, 58] [(6, vi 28)] [1, 2] [] ?_
     refine q_fn [.ownB 0 5 3 78 5 (rf qF ([] : List Leaf))] ⟨[(6, vi 28)], [(0, bx 143 [tl qJ default a3, tl qA default a4, cb a5, ci a6, ci (w64 (a7 + 1)), .own 3 0 5 0, .emp]), (3, ro 0 78 5 0 (rf qF ([] : List Leaf)))]⟩ o0 ?_
     refine q_fn [.ownB 0 6 4 28 4 (rf qE ([] : List Rect))] ⟨[(6, vi 28)], [(0, bx 143 [tl qJ default a3, tl qA default a4, cb a5, ci a6, ci (w64 (a7 + 1)), .own 3 0 5 0, .own 4 0 4 0]), (3, ro 0 78 5 0 (rf qF ([] : List Leaf))), (4, ro 0 28 4 0 (rf qE ([] : List Rect)))]⟩ o0 ?_
     refine q_fn [.len 3 (([] : List Leaf).length)] ⟨[(6, vi 28)], [(0, bx 143 [tl qJ default a3, tl qA default a4, cb a5, ci a6, ci (w64 (a7 + 1)), .own 3 0 5 (([] : List Leaf).length), .own 4 0 4 0]), (3, ro 0 78 5 (([] : List Leaf).length) (rf qF ([] : List Leaf))), (4, ro 0 28 4 0 (rf qE ([] : List Rect)))]⟩ (o1 (And.intro (show 0 = ([] : List Leaf).length from rfl) (show 0 = ([] : List Leaf).length from rfl))) ?_
     refine q_fn [.len 4 (([] : List Rect).length)] ⟨[(6, vi 28)], [(0, bx 143 [tl qJ default a3, tl qA default a4, cb a5, ci a6, ci (w64 (a7 + 1)), .own 3 0 5 (([] : List Leaf).length), .own 4 0 4 (([] : List Rect).length)]), (3, ro 0 78 5 (([] : List Leaf).length) (rf qF ([] : List Leaf))), (4, ro 0 28 4 (([] : List Rect).length) (rf qE ([] : List Rect)))]⟩ (o1 (And.intro (show 0 = ([] : List Rect).length from rfl) (show 0 = ([] : List Rect).length from rfl))) ?_
     obtain rfl := Option.some.inj hm
     refine qT 3 1 (by kernel_rfl) ?_
     refine qT 4 2 (by kernel_rfl) ?_
     refine q_rt ?_
     exact q_rm
    ·replace hm := qB b15 hm
     refine q_sk ?_
     refine q_sq ?_
     refine q_sq ?_
     refine q_vu [] 3 [58] [(60, vi ((a3.getD a7.toNat default).Kind))] [] [] ?_
     refine q_bk 0 ?_
     refine q_sq ?_
     refine q_vu [] 3 [] [(61, vb (((a3.getD a7.toNat default).Kind) == 0))] [] [] ?_
     refine q_cn (((a3.getD a7.toNat default).Kind) == 0) (fun b16 => ?_) (fun b16 => ?_)
     ·replace hm := qC b16 hm
      refine q_sq ?_
      obtain ⟨g17, hm⟩ := qL hm
      refine q_dn [qd 7 (drw 3 0 (rf qF ([(Leaf.mk a1 (-1))] : List Leaf))) (litP qF default 5 (fun _ => rfl) ([(Leaf.mk a1 (-1))] : List Leaf) 1 rfl), qd 8 (drw 4 0 (rf qF ([(Leaf.mk a1 (-1))] : List Leaf))) (apP0 qF default ([(Leaf.mk a1 (-1))] : List Leaf) 1 5 40 (1 ≤ 1) (Nat.le_refl _) (fun _ => rfl) (wL g17))] [0, 0, 2, 6, 14, 0, 32, 96, 254, 511, 1023, 2047] 3 ⟨[], [(0, bx 143 [tl qJ default a3, tl qA default a4, cb a5, ci a6, ci (w64 (a7 + 1)), .own 4 0 5 1, .emp]), (4, ro 0 78 5 1 (rf qF ([(Leaf.mk a1 (-1))] : List Leaf)))]⟩ ?_
      refine q_sq ?_
      refine q_vu [] 5 [] [(6, vi 0)] [] [] ?_
      refine q_fn [.ownB 0 6 5 28 4 (rf qE ([] : List Rect))] ⟨[(6, vi 0)], [(0, bx 143 [tl qJ default a3, tl qA default a4, cb a5, ci a6, ci (w64 (a7 + 1)), .own 4 0 5 1, .own 5 0 4 0]), (4, ro 0 78 5 1 (rf qF ([(Leaf.mk a1 (-1))] : List Leaf))), (5, ro 0 28 4 0 (rf qE ([] : List Rect)))]⟩ o0 ?_
      refine q_fn [.len 4 (([(Leaf.mk a1 (-1))] : List Leaf).length)] ⟨[(6, vi 0)], [(0, bx 143 [tl qJ default a3, tl qA default a4, cb a5, ci a6, ci (w64 (a7 + 1)), .own 4 0 5 (([(Leaf.mk a1 (-1))] : List Leaf).length), .own 5 0 4 0]), (4, ro 0 78 5 (([(Leaf.mk a1 (-1))] : List Leaf).length) (rf qF ([(Leaf.mk a1 (-1))] : List Leaf))), (5, ro 0 28 4 0 (rf qE ([] : List Rect)))]⟩ (o1 (And.intro (show 1 = ([(Leaf.mk a1 (-1))] : List Leaf).length from rfl) (show 1 = ([(Leaf.mk a1 (-1))] : List Leaf).length from rfl))) ?_
      refine q_fn [.len 5 (([] : List Rect).length)] ⟨[(6, vi 0)], [(0, bx 143 [tl qJ default a3, tl qA default a4, cb a5, ci a6, ci (w64 (a7 + 1)), .own 4 0 5 (([(Leaf.mk a1 (-1))] : List Leaf).length), .own 5 0 4 (([] : List Rect).length)]), (4, ro 0 78 5 (([(Leaf.mk a1 (-1))] : List Leaf).length) (rf qF ([(Leaf.mk a1 (-1))] : List Leaf))), (5, ro 0 28 4 (([] : List Rect).length) (rf qE ([] : List Rect)))]⟩ (o1 (And.intro (show 0 = ([] : List Rect).length from rfl) (show 0 = ([] : List Rect).length from rfl))) ?_
      obtain rfl := Option.some.inj hm
      refine qT 4 1 (by kernel_rfl) ?_
      refine qT 5 2 (by kernel_rfl) ?_
      refine q_rt ?_
      exact q_rm
     ·replace hm := qB b16 hm
      refine q_sq ?_
      refine q_vu [] 3 [60, 61] [(74, vb (((a3.getD a7.toNat default).Kind) == 1))] [] [] ?_
      refine q_cn (((a3.getD a7.toNat default).Kind) == 1) (fun b18 => ?_) (fun b18 => ?_)
      ·replace hm := qC b18 hm
       refine q_sq ?_
       obtain ⟨g19, hm⟩ := qL hm
       refine q_du [qd 9 (drw 3 0 (rf qF ([(Leaf.mk a1 ((a3.getD a7.toNat default).At))] : List Leaf))) (litP qF default 5 (fun _ => rfl) ([(Leaf.mk a1 ((a3.getD a7.toNat default).At))] : List Leaf) 1 rfl), qd 10 (drw 4 0 (rf qF ([(Leaf.mk a1 ((a3.getD a7.toNat default).At))] : List Leaf))) (apP0 qF default ([(Leaf.mk a1 ((a3.getD a7.toNat default).At))] : List Leaf) 1 5 40 (1 ≤ 1) (Nat.le_refl _) (fun _ => rfl) (wL g19))] [0, 0, 2, 6, 14, 0, 0, 64, 224, 480, 1022, 2047, 4095, 8191] 3 [2, 74] [] [0] [(0, bx 143 [tl qJ default a3, tl qA default a4, cb a5, ci a6, ci (w64 (a7 + 1)), .own 4 0 5 1, .emp]), (4, ro 0 78 5 1 (rf qF ([(Leaf.mk a1 ((a3.getD a7.toNat default).At))] : List Leaf)))] ?_
       refine q_sq ?_
       obtain ⟨v20, h21, hm⟩ := qD hm
       refine q_vn [qd 3 (dpr [.len 4 (([(Leaf.mk a1 ((a3.getD a7.toNat default).At))] : List Leaf).length)] (dex (cen [(0, 0), (4, 0)] [0, 1] 3 1 (SF (a3.getD a7.toNat default) a1 a3 a4 a5 a6 (w64 (a7 + 1)) ([(Leaf.mk a1 ((a3.getD a7.toNat default).At))] : List Leaf) v20) (SR (a3.getD a7.toNat default) a1 a3 a4 a5 a6 (w64 (a7 + 1)) ([(Leaf.mk a1 ((a3.getD a7.toNat default).At))] : List Leaf) v20) [89, 90, 91] [0, 4]))) (And.intro (show 1 = ([(Leaf.mk a1 ((a3.getD a7.toNat default).At))] : List Leaf).length from rfl) (show 1 = ([(Leaf.mk a1 ((a3.getD a7.toNat default).At))] : List Leaf).length from rfl)), qd 3 (Dir.none) (jI (K := (kx E 182 1)) ⟨[(89, vp 0 0), (90, va [ci ((a3.getD a7.toNat default).Kind), ci ((a3.getD a7.toNat default).At)]), (91, va (qE a1))], [(0, bx 143 [tl qJ default a3, tl qA default a4, cb a5, ci a6, ci (w64 (a7 + 1)), .own 4 0 5 (([(Leaf.mk a1 ((a3.getD a7.toNat default).At))] : List Leaf).length), .emp]), (4, ro 0 78 5 (([(Leaf.mk a1 ((a3.getD a7.toNat default).At))] : List Leaf).length) (rf qF ([(Leaf.mk a1 ((a3.getD a7.toNat default).At))] : List Leaf)))]⟩ (opAt (rg Tryz.f76 65210) 3) [(0, 0), (4, 0)] [0, 1] 3 o0 rfl (qDg (a3.getD a7.toNat default) a1 a3 a4 a5 a6 (w64 (a7 + 1)) ([(Leaf.mk a1 ((a3.getD a7.toNat default).At))] : List Leaf) v20 h21) (.inl rfl) (by kernel_rfl))] 5 ⟨[(6, vi v20)], [(0, bx 143 [tl qJ default a3, tl qA default a4, cb a5, ci a6, ci (w64 (a7 + 1)), .own 4 1 5 (([(Leaf.mk a1 ((a3.getD a7.toNat default).At))] : List Leaf).length), .emp]), (4, ro 1 78 5 (([(Leaf.mk a1 ((a3.getD a7.toNat default).At))] : List Leaf).length) (rf qF ([(Leaf.mk a1 ((a3.getD a7.toNat default).At))] : List Leaf)))]⟩ ?_
       refine q_fn [.ownB 0 6 5 28 4 (rf qE ([] : List Rect))] ⟨[(6, vi v20)], [(0, bx 143 [tl qJ default a3, tl qA default a4, cb a5, ci a6, ci (w64 (a7 + 1)), .own 4 1 5 (([(Leaf.mk a1 ((a3.getD a7.toNat default).At))] : List Leaf).length), .own 5 0 4 0]), (4, ro 1 78 5 (([(Leaf.mk a1 ((a3.getD a7.toNat default).At))] : List Leaf).length) (rf qF ([(Leaf.mk a1 ((a3.getD a7.toNat default).At))] : List Leaf))), (5, ro 0 28 4 0 (rf qE ([] : List Rect)))]⟩ o0 ?_
       refine q_fn [.len 5 (([] : List Rect).length)] ⟨[(6, vi v20)], [(0, bx 143 [tl qJ default a3, tl qA default a4, cb a5, ci a6, ci (w64 (a7 + 1)), .own 4 1 5 (([(Leaf.mk a1 ((a3.getD a7.toNat default).At))] : List Leaf).length), .own 5 0 4 (([] : List Rect).length)]), (4, ro 1 78 5 (([(Leaf.mk a1 ((a3.getD a7.toNat default).At))] : List Leaf).length) (rf qF ([(Leaf.mk a1 ((a3.getD a7.toNat default).At))] : List Leaf))), (5, ro 0 28 4 (([] : List Rect).length) (rf qE ([] : List Rect)))]⟩ (o1 (And.intro (show 0 = ([] : List Rect).length from rfl) (show 0 = ([] : List Rect).length from rfl))) ?_
       obtain rfl := Option.some.inj hm
       refine qT 4 1 (by kernel_rfl) ?_
       refine qT 5 2 (by kernel_rfl) ?_
       refine q_rt ?_
       exact q_rm
      ·replace hm := qB b18 hm
       refine q_sk ?_
       refine q_sq ?_
       refine q_du [] [0, 0, 0, 0, 0, 0, 57, 123, 255] 3 [74] [(8, vp 3 0), (9, vp 4 0), (10, vp 5 0)] [] [(3, bx 28 (qE a1)), (4, bx 28 (qE a1)), (5, bx 28 (qE a1))] ?_
       refine q_jn (ι := Rect × Rect × Rect) (fun p => LC a2 a3 a4 a5 a6 a7 p.1 p.2.1 p.2.2) (fun p => TC a2 a3 a4 a5 a6 a7 p.1 p.2.1 p.2.2 = some r) ?_ ?_
       ·rintro ⟨x33, x34, x35⟩ hm
        show H _ (LC a2 a3 a4 a5 a6 a7 x33 x34 x35) _ _
        refine q_sq ?_
        obtain ⟨g36, hm⟩ := qL hm
        refine q_du [qd 6 (drw 6 0 (rf qE ([x34] : List Rect))) (litP qE default 4 (fun _ => rfl) ([x34] : List Rect) 1 rfl), qd 7 (drw 7 0 (rf qE ([x34] : List Rect))) (apP0 qE default ([x34] : List Rect) 1 4 32 (1 ≤ 1) (Nat.le_refl _) (fun _ => rfl) (wL g36))] [0, 0, 2, 6, 14, 0, 32, 126, 255, 511, 1023] 6 [9] [] [0, 4] [(0, bx 143 [tl qJ default a3, tl qA default a4, cb a5, ci a6, ci (w64 (a7 + 1)), .emp, .own 7 0 4 1]), (7, ro 0 28 4 1 (rf qE ([x34] : List Rect)))] ?_
        refine q_sq ?_
        refine q_sq ?_
        obtain ⟨v37, h38, hm⟩ := qD hm
        refine q_vu [qd 4 (dpr [.len 7 (([x34] : List Rect).length)] (dex (cen [(0, 0), (7, 0)] [0, 1] 6 1 (WE x35 (w64 (a2 + 1)) a3 a4 a5 a6 (w64 (a7 + 1)) ([x34] : List Rect) v37) (ZZ x35 (w64 (a2 + 1)) a3 a4 a5 a6 (w64 (a7 + 1)) ([x34] : List Rect) v37) [169, 170, 172] [0, 7]))) (And.intro (show 1 = ([x34] : List Rect).length from rfl) (show 1 = ([x34] : List Rect).length from rfl)), qd 4 (Dir.none) (jI (K := (kx E 182 1)) ⟨[(169, vp 0 0), (170, va (qE x35)), (172, vi (w64 (a2 + 1)))], [(0, bx 143 [tl qJ default a3, tl qA default a4, cb a5, ci a6, ci (w64 (a7 + 1)), .emp, .own 7 0 4 (([x34] : List Rect).length)]), (7, ro 0 28 4 (([x34] : List Rect).length) (rf qE ([x34] : List Rect)))]⟩ (opAt (rg Tryz.f76 8188) 4) [(0, 0), (7, 0)] [0, 1] 6 o0 rfl (qBO x35 (w64 (a2 + 1)) a3 a4 a5 a6 (w64 (a7 + 1)) ([x34] : List Rect) v37 h38) (.inl rfl) (by kernel_rfl))] 8 [8] [(11, vi v37.1)] [0, 3, 7] [(0, bx 143 [tl qJ default a3, tl qA default a4, cb a5, ci a6, ci v37.2.1, .own 8 0 5 v37.2.2.1.length, .own 7 1 4 v37.2.2.2.length]), (7, ro 1 28 4 v37.2.2.2.length (rf qE v37.2.2.2)), (8, ro 0 78 5 v37.2.2.1.length (rf qF v37.2.2.1))] ?_
        refine q_sq ?_
        refine q_vu [] 9 [] [(175, vb (v37.1 != 0))] [] [] ?_
        refine q_cn (v37.1 != 0) (fun b39 => ?_) (fun b39 => ?_)
        ·replace hm := qC b39 hm
         refine q_sq ?_
         refine q_vu [] 9 [0, 2, 10, 11, 175] [(6, vi v37.1)] [5] [] ?_
         obtain rfl := Option.some.inj hm
         refine qT 8 1 (by kernel_rfl) ?_
         refine qT 7 2 (by kernel_rfl) ?_
         refine q_rt ?_
         exact q_rm
        ·replace hm := qB b39 hm
         refine q_sk ?_
         refine q_sq ?_
         obtain ⟨v40, h41, hm⟩ := qD hm
         refine q_vn [qd 4 (dex (cen [(0, 0), (8, 0), (7, 1)] [0, 1, 2] 6 1 (jE x33 (w64 (a2 + 1)) a3 a4 a5 a6 v37.2.1 v37.2.2.1 v37.2.2.2 v40) (jD x33 (w64 (a2 + 1)) a3 a4 a5 a6 v37.2.1 v37.2.2.1 v37.2.2.2 v40) [177, 178, 180] [0, 8, 7])) (jI (K := (kx E 182 1)) ⟨[(177, vp 0 0), (178, va (qE x33)), (180, vi (w64 (a2 + 1)))], [(0, bx 143 [tl qJ default a3, tl qA default a4, cb a5, ci a6, ci v37.2.1, .own 8 0 5 v37.2.2.1.length, .own 7 1 4 v37.2.2.2.length]), (8, ro 0 78 5 v37.2.2.1.length (rf qF v37.2.2.1)), (7, ro 1 28 4 v37.2.2.2.length (rf qE v37.2.2.2))]⟩ (opAt (rg Tryz.f76 8190) 4) [(0, 0), (8, 0), (7, 1)] [0, 1, 2] 6 o0 rfl (NR x33 (w64 (a2 + 1)) a3 a4 a5 a6 v37.2.1 v37.2.2.1 v37.2.2.2 v40 h41) (.inl rfl) (by kernel_rfl))] 9 ⟨[(6, vi v40.1)], [(0, bx 143 [tl qJ default a3, tl qA default a4, cb a5, ci a6, ci v40.2.1, .own 8 1 5 v40.2.2.1.length, .own 7 2 4 v40.2.2.2.length]), (7, ro 2 28 4 v40.2.2.2.length (rf qE v40.2.2.2)), (8, ro 1 78 5 v40.2.2.1.length (rf qF v40.2.2.1))]⟩ ?_
         obtain rfl := Option.some.inj hm
         refine qT 8 1 (by kernel_rfl) ?_
         refine qT 7 2 (by kernel_rfl) ?_
         refine q_rt ?_
         exact q_rm
       ·refine q_sq ?_
        refine q_vu [] 6 [] [(98, vb (((a3.getD a7.toNat default).Kind) == 2))] [] [] ?_
        refine q_cn (((a3.getD a7.toNat default).Kind) == 2) (fun b22 => ?_) (fun b22 => ?_)
        ·replace hm := qC b22 hm
         refine q_sq ?_
         refine q_jn (ι := Bool) (fun p => LJ a1 a2 a3 a4 a5 a6 a7 p) (fun p => TG a1 a2 a3 a4 a5 a6 a7 p = some r) ?_ ?_
         ·rintro x24 hm
          show H _ (LJ a1 a2 a3 a4 a5 a6 a7 x24) _ _
          refine q_cn x24 (fun b25 => ?_) (fun b25 => ?_)
          ·replace hm := qC b25 hm
           refine q_sq ?_
           refine q_vu [] 6 [0, 2, 4, 7, 8, 9, 10, 112] [(6, vi 20)] [1, 2, 3, 4, 5] [] ?_
           refine q_fn [.ownB 0 5 6 78 5 (rf qF ([] : List Leaf))] ⟨[(6, vi 20)], [(0, bx 143 [tl qJ default a3, tl qA default a4, cb a5, ci a6, ci (w64 (a7 + 1)), .own 6 0 5 0, .emp]), (6, ro 0 78 5 0 (rf qF ([] : List Leaf)))]⟩ o0 ?_
           refine q_fn [.ownB 0 6 7 28 4 (rf qE ([] : List Rect))] ⟨[(6, vi 20)], [(0, bx 143 [tl qJ default a3, tl qA default a4, cb a5, ci a6, ci (w64 (a7 + 1)), .own 6 0 5 0, .own 7 0 4 0]), (6, ro 0 78 5 0 (rf qF ([] : List Leaf))), (7, ro 0 28 4 0 (rf qE ([] : List Rect)))]⟩ o0 ?_
           refine q_fn [.len 6 (([] : List Leaf).length)] ⟨[(6, vi 20)], [(0, bx 143 [tl qJ default a3, tl qA default a4, cb a5, ci a6, ci (w64 (a7 + 1)), .own 6 0 5 (([] : List Leaf).length), .own 7 0 4 0]), (6, ro 0 78 5 (([] : List Leaf).length) (rf qF ([] : List Leaf))), (7, ro 0 28 4 0 (rf qE ([] : List Rect)))]⟩ (o1 (And.intro (show 0 = ([] : List Leaf).length from rfl) (show 0 = ([] : List Leaf).length from rfl))) ?_
           refine q_fn [.len 7 (([] : List Rect).length)] ⟨[(6, vi 20)], [(0, bx 143 [tl qJ default a3, tl qA default a4, cb a5, ci a6, ci (w64 (a7 + 1)), .own 6 0 5 (([] : List Leaf).length), .own 7 0 4 (([] : List Rect).length)]), (6, ro 0 78 5 (([] : List Leaf).length) (rf qF ([] : List Leaf))), (7, ro 0 28 4 (([] : List Rect).length) (rf qE ([] : List Rect)))]⟩ (o1 (And.intro (show 0 = ([] : List Rect).length from rfl) (show 0 = ([] : List Rect).length from rfl))) ?_
           obtain rfl := Option.some.inj hm
           refine qT 6 1 (by kernel_rfl) ?_
           refine qT 7 2 (by kernel_rfl) ?_
           refine q_rt ?_
           exact q_rm
          ·replace hm := qB b25 hm
           refine q_sk ?_
           obtain ⟨v26, h27, hm⟩ := qD hm
           refine q_du [qc 8 [115, 117, 121] 6 (JY a1.X ((a3.getD a7.toNat default).At) a6 v26 h27)] [0, 1, 0, 4, 0, 16, 48, 112, 255, 511, 1023, 1023, 1023, 2047, 10239, 28671, 61439, 131071, 262143] 6 [4, 7, 112] [] [1, 2, 3, 4, 5] [(3, bx 28 [ci v26.1.A, ci v26.1.B, ci a1.Y.A, ci a1.Y.B]), (4, bx 28 [ci v26.2.1.A, ci v26.2.1.B, ci a1.Y.A, ci a1.Y.B]), (5, bx 28 [ci v26.2.2.A, ci v26.2.2.B, ci a1.Y.A, ci a1.Y.B])] ?_
           exact q_J ((Rect.mk v26.2.2 a1.Y), (Rect.mk v26.2.1 a1.Y), (Rect.mk v26.1 a1.Y)) hm
         ·rcases Bool.eq_false_or_eq_true (decide (((a3.getD a7.toNat default).At) ≤ a1.X.A)) with b23 | b23
          ·replace hm := qC b23 hm
           refine q_vu [qf 6 b23] 6 [98] [(112, vb true)] [] [] ?_
           exact q_J (true) hm
          ·replace hm := qB b23 hm
           refine q_vu [qf 6 b23] 6 [98] [(112, vb (decide (((a3.getD a7.toNat default).At) ≥ a1.X.B)))] [] [] ?_
           exact q_J (decide (((a3.getD a7.toNat default).At) ≥ a1.X.B)) hm
        ·replace hm := qB b22 hm
         refine q_sq ?_
         refine q_jn (ι := Bool) (fun p => LA a1 a2 a3 a4 a5 a6 a7 p) (fun p => TY a1 a2 a3 a4 a5 a6 a7 p = some r) ?_ ?_
         ·rintro x29 hm
          show H _ (LA a1 a2 a3 a4 a5 a6 a7 x29) _ _
          refine q_cn x29 (fun b30 => ?_) (fun b30 => ?_)
          ·replace hm := qC b30 hm
           refine q_sq ?_
           refine q_vu [] 6 [0, 2, 4, 7, 8, 9, 10, 142] [(6, vi 20)] [1, 2, 3, 4, 5] [] ?_
           refine q_fn [.ownB 0 5 6 78 5 (rf qF ([] : List Leaf))] ⟨[(6, vi 20)], [(0, bx 143 [tl qJ default a3, tl qA default a4, cb a5, ci a6, ci (w64 (a7 + 1)), .own 6 0 5 0, .emp]), (6, ro 0 78 5 0 (rf qF ([] : List Leaf)))]⟩ o0 ?_
           refine q_fn [.ownB 0 6 7 28 4 (rf qE ([] : List Rect))] ⟨[(6, vi 20)], [(0, bx 143 [tl qJ default a3, tl qA default a4, cb a5, ci a6, ci (w64 (a7 + 1)), .own 6 0 5 0, .own 7 0 4 0]), (6, ro 0 78 5 0 (rf qF ([] : List Leaf))), (7, ro 0 28 4 0 (rf qE ([] : List Rect)))]⟩ o0 ?_
           refine q_fn [.len 6 (([] : List Leaf).length)] ⟨[(6, vi 20)], [(0, bx 143 [tl qJ default a3, tl qA default a4, cb a5, ci a6, ci (w64 (a7 + 1)), .own 6 0 5 (([] : List Leaf).length), .own 7 0 4 0]), (6, ro 0 78 5 (([] : List Leaf).length) (rf qF ([] : List Leaf))), (7, ro 0 28 4 0 (rf qE ([] : List Rect)))]⟩ (o1 (And.intro (show 0 = ([] : List Leaf).length from rfl) (show 0 = ([] : List Leaf).length from rfl))) ?_
           refine q_fn [.len 7 (([] : List Rect).length)] ⟨[(6, vi 20)], [(0, bx 143 [tl qJ default a3, tl qA default a4, cb a5, ci a6, ci (w64 (a7 + 1)), .own 6 0 5 (([] : List Leaf).length), .own 7 0 4 (([] : List Rect).length)]), (6, ro 0 78 5 (([] : List Leaf).length) (rf qF ([] : List Leaf))), (7, ro 0 28 4 (([] : List Rect).length) (rf qE ([] : List Rect)))]⟩ (o1 (And.intro (show 0 = ([] : List Rect).length from rfl) (show 0 = ([] : List Rect).length from rfl))) ?_
           obtain rfl := Option.some.inj hm
           refine qT 6 1 (by kernel_rfl) ?_
           refine qT 7 2 (by kernel_rfl) ?_
           refine q_rt ?_
           exact q_rm
          ·replace hm := qB b30 hm
           refine q_sk ?_
           obtain ⟨v31, h32, hm⟩ := qD hm
           refine q_du [qc 8 [145, 147, 151] 6 (JY a1.Y ((a3.getD a7.toNat default).At) a6 v31 h32)] [0, 1, 0, 4, 0, 16, 48, 112, 255, 511, 1023, 1023, 1023, 2047, 10239, 28671, 61439, 131071, 262143] 6 [4, 7, 142] [] [1, 2, 3, 4, 5] [(3, bx 28 [ci a1.X.A, ci a1.X.B, ci v31.1.A, ci v31.1.B]), (4, bx 28 [ci a1.X.A, ci a1.X.B, ci v31.2.1.A, ci v31.2.1.B]), (5, bx 28 [ci a1.X.A, ci a1.X.B, ci v31.2.2.A, ci v31.2.2.B])] ?_
           exact q_J ((Rect.mk a1.X v31.2.2), (Rect.mk a1.X v31.2.1), (Rect.mk a1.X v31.1)) hm
         ·rcases Bool.eq_false_or_eq_true (decide (((a3.getD a7.toNat default).At) ≤ a1.Y.A)) with b28 | b28
          ·replace hm := qC b28 hm
           refine q_vu [qf 6 b28] 6 [98] [(142, vb true)] [] [] ?_
           exact q_J (true) hm
          ·replace hm := qB b28 hm
           refine q_vu [qf 6 b28] 6 [98] [(142, vb (decide (((a3.getD a7.toNat default).At) ≥ a1.Y.B)))] [] [] ?_
           exact q_J (decide (((a3.getD a7.toNat default).At) ≥ a1.Y.B)) hm
  ·rcases Bool.eq_false_or_eq_true (decide (((a3.getD a7.toNat default).Kind) < 0)) with b10 | b10
   ·replace hm := qC b10 hm
    refine q_vu [qf 3 b10] 3 [] [(56, vb true)] [] [] ?_
    exact q_J (true) hm
   ·replace hm := qB b10 hm
    rcases Bool.eq_false_or_eq_true (decide (((a3.getD a7.toNat default).Kind) > 3)) with b11 | b11
    ·replace hm := qC b11 hm
     refine q_vu [qf 3 b10, qf 8 b11] 3 [] [(56, vb true)] [] [] ?_
     exact q_J (true) hm
    ·replace hm := qB b11 hm
     rcases Bool.eq_false_or_eq_true (((a3.getD a7.toNat default).Kind) == 0) with b12 | b12
     ·replace hm := qC b12 hm
      refine q_vu [qf 3 b10, qf 8 b11, qf 12 b12] 3 [] [(56, vb (((a3.getD a7.toNat default).At) != 0))] [] [] ?_
      exact q_J (((a3.getD a7.toNat default).At) != 0) hm
     ·replace hm := qB b12 hm
      refine q_vu [qf 3 b10, qf 8 b11, qf 12 b12] 3 [] [(56, vb false)] [] [] ?_
      exact q_J (false) hm
end Saw
end Go.SL
