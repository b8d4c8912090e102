import Derived.Test.YtgpgnlllieekbaaDoorEBase
import Derived.Test.YtgpgnlllieekbaaDoorELlaw23awake
import Derived.Test.YtgpgnlllieekbaaDoorELs
import Derived.Test.YtgpgnlllieekbaaDoorELlaw23Small
set_option linter.unusedVariables false
set_option linter.unusedSimpArgs false
namespace Go.SL
namespace Saw
open Go.Proofs
set_option maxHeartbeats 4000000

def law23_EdgeMore_x (r : Bool) : V := vb r

def law23_EdgeMore_o (r : Bool) : List (Nat × (Nat × O)) := []

theorem law23_EdgeMore_f (r : Bool) : Frozen (law23_EdgeMore_o r) := by
 intro i k o h
 unfold law23_EdgeMore_o at h
 cases h

def law23_EdgeMore_k2_S (x27 : Bool) : St :=
 ⟨[(4, vb x27)], []⟩

def law23_EdgeMore_k1_S (a1 : Law23_Given) (a2 : Product) (x10 : Bool) : St :=
 ⟨[(2, vp 0 0), (5, vp 2 0), (28, vb x10)], [(0, bx 41 (e_Law23_Given a1)), (2, bx 41 [tl e_Slice default a1.Solid, tl e_Defect default a1.Defects, .own 3 0 7 ((0 + a1.Products.length) + 1), ci a1.Strip.X.A, ci a1.Strip.X.B, ci a1.Strip.Y.A, ci a1.Strip.Y.B, ci a1.Saw.Kerf, ci a1.Saw.Trim, ci a1.Saw.Pitch, ci a1.Saw.Step, ci a1.Rates.Chip, ci a1.Rates.Dust, ci a1.Rates.Fine]), (3, ro 0 43 7 ((0 + a1.Products.length) + 1) (rf e_Product ((([] : List Product) ++ a1.Products) ++ ([a2] : List Product))))]⟩

set_option maxRecDepth 100000 in
theorem law23_EdgeMore_ok (a1 : Law23_Given) (a2 : Product) (r : Bool) (hm : law23_EdgeMore a1 a2 = some r) : CtX Tryd.prog globs 4 0 0 [.agg (e_Law23_Given a1), .agg (e_Product a2)] [] (law23_EdgeMore_x r) (law23_EdgeMore_o r) := by
 unfold law23_EdgeMore at hm
 refine q_E Tryd.f4 56 fun E => ?_
 refine q_sq ?_
 refine q_vn [] 0 ⟨[(2, vp 0 0), (3, vp 1 0)], [(0, bx 41 (e_Law23_Given a1)), (1, bx 43 (e_Product a2))]⟩ ?_
 refine q_sq ?_
 refine q_vu [] 2 [] [(5, vp 2 0)] [] [(2, bx 41 (e_Law23_Given a1))] ?_
 refine q_sq ?_
 obtain ⟨g3, hm⟩ := bif_n hm
 obtain ⟨g4, hm⟩ := bif_n hm
 refine q_du [qd 0 (drw 3 0 (rf e_Product ([] : List Product))) (litP e_Product default 7 (fun _ => rfl) ([] : List Product) 0 rfl), qd 3 (drw 3 1 (rf e_Product (([] : List Product) ++ a1.Products))) (apP e_Product default ([] : List Product) a1.Products 0 a1.Products.length 7 96 (True) trivial rfl rfl (fun _ => rfl) (room_of g3)), qd 5 (drw 4 0 (rf e_Product ([a2] : List Product))) (litP e_Product default 7 (fun _ => rfl) ([a2] : List Product) 1 rfl), qd 6 (drw 3 2 (rf e_Product ((([] : List Product) ++ a1.Products) ++ ([a2] : List Product)))) (apP e_Product default (([] : List Product) ++ a1.Products) ([a2] : List Product) (0 + a1.Products.length) 1 7 96 (1 ≤ 1) (Nat.le_refl _) (len_app rfl rfl) rfl (fun _ => rfl) (room_of g4))] [0, 0, 2, 7, 0, 16, 63, 127, 255] 3 [3] [] [1, 2] [(2, bx 41 [tl e_Slice default a1.Solid, tl e_Defect default a1.Defects, .own 3 2 7 ((0 + a1.Products.length) + 1), ci a1.Strip.X.A, ci a1.Strip.X.B, ci a1.Strip.Y.A, ci a1.Strip.Y.B, ci a1.Saw.Kerf, ci a1.Saw.Trim, ci a1.Saw.Pitch, ci a1.Saw.Step, ci a1.Rates.Chip, ci a1.Rates.Dust, ci a1.Rates.Fine]), (3, ro 2 43 7 ((0 + a1.Products.length) + 1) (rf e_Product ((([] : List Product) ++ a1.Products) ++ ([a2] : List Product))))] ?_
 refine q_sq ?_
 refine q_jn (ι := Bool) (fun p => law23_EdgeMore_k1_S a1 a2 p) (fun p => law23_EdgeMore_k1 a1 a2 p = some r) ?_ ?_
 ·rintro x10 hm
  show H _ (law23_EdgeMore_k1_S a1 a2 x10) _ _
  refine q_cn x10 (fun b11 => ?_) (fun b11 => ?_)
  ·replace hm := bif_t b11 hm
   refine q_sq ?_
   obtain ⟨v12, h13, hm⟩ := bind_s hm
   refine q_vn [qc 0 [] 5 (law23_awake_ok v12 h13)] 5 ⟨[(4, vb v12)], []⟩ ?_
   obtain rfl := Option.some.inj hm
   refine q_rt ?_
   exact q_rm
  ·replace hm := bif_f b11 hm
   refine q_sk ?_
   refine q_sq ?_
   obtain ⟨v14, h15, hm⟩ := bind_s hm
   refine q_vu [qc 1 [31] 5 (law23_best_ok a1 v14 h15)] 5 [2, 28] [(7, vi v14.2.1), (8, vi v14.2.2)] [0] [] ?_
   refine q_sq ?_
   obtain ⟨v16, h17, hm⟩ := bind_s hm
   refine q_vu [qd 1 (dex (cen [] [] 6 0 (law23_best_x v16) (law23_best_o v16) [37] [3])) (callS (K := (kx E 56 0)) (xs' := [.agg [tl e_Slice default a1.Solid, tl e_Defect default a1.Defects, .lst ((0 + a1.Products.length) + 1) (rf e_Product ((([] : List Product) ++ a1.Products) ++ ([a2] : List Product))), ci a1.Strip.X.A, ci a1.Strip.X.B, ci a1.Strip.Y.A, ci a1.Strip.Y.B, ci a1.Saw.Kerf, ci a1.Saw.Trim, ci a1.Saw.Pitch, ci a1.Saw.Step, ci a1.Rates.Chip, ci a1.Rates.Dust, ci a1.Rates.Fine]]) (b := false) ⟨[(37, va [tl e_Slice default a1.Solid, tl e_Defect default a1.Defects, .own 3 0 7 ((0 + a1.Products.length) + 1), ci a1.Strip.X.A, ci a1.Strip.X.B, ci a1.Strip.Y.A, ci a1.Strip.Y.B, ci a1.Saw.Kerf, ci a1.Saw.Trim, ci a1.Saw.Pitch, ci a1.Saw.Step, ci a1.Rates.Chip, ci a1.Rates.Dust, ci a1.Rates.Fine])], [(3, ro 0 43 7 ((0 + a1.Products.length) + 1) (rf e_Product ((([] : List Product) ++ a1.Products) ++ ([a2] : List Product))))]⟩ (opAt (rg Tryd.f4 126) 1) [] [] 6 (o1 (Nat.le_refl ((0 + a1.Products.length) + 1))) (by simp only [tl, rf, e_Law23_Given, show ((([] : List Product) ++ a1.Products) ++ ([a2] : List Product)).length = ((0 + a1.Products.length) + 1) from (len_app (len_app rfl rfl) rfl)]) (law23_best_ok (Law23_Given.mk a1.Solid a1.Defects ((([] : List Product) ++ a1.Products) ++ ([a2] : List Product)) a1.Strip a1.Saw a1.Rates) v16 h17) (.inr ⟨(by kernel_rfl), law23_best_f v16⟩) (by kernel_rfl))] 6 [5] [(10, vi v16.2.1), (11, vi v16.2.2)] [2, 3] [] ?_
   refine q_jn (ι := Bool) (fun p => law23_EdgeMore_k2_S p) (fun p => law23_EdgeMore_k2 p = some r) ?_ ?_
   ·rintro x27 hm
    show H _ (law23_EdgeMore_k2_S x27) _ _
    obtain rfl := Option.some.inj hm
    refine q_rt ?_
    exact q_rm
   ·rcases Bool.eq_false_or_eq_true (v14.2.2 != 0) with b18 | b18
    ·replace hm := bif_t b18 hm
     obtain ⟨v19, h20, hm⟩ := bind_s hm
     refine q_vn [qf 2 b18, qk 12 [53] 7 ⟨[(53, vb true)], []⟩ (law23_awake_ok v19 h20)] 7 ⟨[(4, vb v19)], []⟩ ?_
     exact q_J (v19) hm
    ·replace hm := bif_f b18 hm
     rcases Bool.eq_false_or_eq_true (v16.2.2 != 0) with b21 | b21
     ·replace hm := bif_t b21 hm
      obtain ⟨v22, h23, hm⟩ := bind_s hm
      refine q_vn [qf 2 b18, qf 6 b21, qk 12 [53] 7 ⟨[(53, vb true)], []⟩ (law23_awake_ok v22 h23)] 7 ⟨[(4, vb v22)], []⟩ ?_
      exact q_J (v22) hm
     ·replace hm := bif_f b21 hm
      rcases Bool.eq_false_or_eq_true (decide (v16.2.1 ≥ v14.2.1)) with b24 | b24
      ·replace hm := bif_t b24 hm
       obtain ⟨v25, h26, hm⟩ := bind_s hm
       refine q_vn [qf 2 b18, qf 6 b21, qf 11 b24, qk 12 [53] 7 ⟨[(53, vb true)], []⟩ (law23_awake_ok v25 h26)] 7 ⟨[(4, vb v25)], []⟩ ?_
       exact q_J (v25) hm
      ·replace hm := bif_f b24 hm
       refine q_vn [qf 2 b18, qf 6 b21, qf 11 b24] 7 ⟨[(4, vb false)], []⟩ ?_
       exact q_J (false) hm
 ·obtain ⟨v5, h6, hm⟩ := bind_s hm
  rcases Bool.eq_false_or_eq_true (!v5) with b7 | b7
  ·replace hm := bif_t b7 hm
   refine q_vu [qc 1 [21] 5 (law23_Small_ok a1 v5 h6), qf 3 b7] 5 [] [(28, vb true)] [] [] ?_
   exact q_J (true) hm
  ·replace hm := bif_f b7 hm
   obtain ⟨v8, h9, hm⟩ := bind_s hm
   refine q_vu [qc 1 [21] 5 (law23_Small_ok a1 v5 h6), qf 3 b7, qd 5 (dex (cen [] [] 5 0 (law23_Small_x v8) (law23_Small_o v8) [24, 25] [3])) (callS (K := (kx E 56 0)) (xs' := [.agg [tl e_Slice default a1.Solid, tl e_Defect default a1.Defects, .lst ((0 + a1.Products.length) + 1) (rf e_Product ((([] : List Product) ++ a1.Products) ++ ([a2] : List Product))), ci a1.Strip.X.A, ci a1.Strip.X.B, ci a1.Strip.Y.A, ci a1.Strip.Y.B, ci a1.Saw.Kerf, ci a1.Saw.Trim, ci a1.Saw.Pitch, ci a1.Saw.Step, ci a1.Rates.Chip, ci a1.Rates.Dust, ci a1.Rates.Fine]]) (b := false) ⟨[(24, vb false), (25, va [tl e_Slice default a1.Solid, tl e_Defect default a1.Defects, .own 3 2 7 ((0 + a1.Products.length) + 1), ci a1.Strip.X.A, ci a1.Strip.X.B, ci a1.Strip.Y.A, ci a1.Strip.Y.B, ci a1.Saw.Kerf, ci a1.Saw.Trim, ci a1.Saw.Pitch, ci a1.Saw.Step, ci a1.Rates.Chip, ci a1.Rates.Dust, ci a1.Rates.Fine])], [(3, ro 2 43 7 ((0 + a1.Products.length) + 1) (rf e_Product ((([] : List Product) ++ a1.Products) ++ ([a2] : List Product))))]⟩ (opAt (rg Tryd.f4 60) 5) [] [] 5 (o1 (Nat.le_refl ((0 + a1.Products.length) + 1))) (by simp only [tl, rf, e_Law23_Given, show ((([] : List Product) ++ a1.Products) ++ ([a2] : List Product)).length = ((0 + a1.Products.length) + 1) from (len_app (len_app rfl rfl) rfl)]) (law23_Small_ok (Law23_Given.mk a1.Solid a1.Defects ((([] : List Product) ++ a1.Products) ++ ([a2] : List Product)) a1.Strip a1.Saw a1.Rates) v8 h9) (.inr ⟨(by kernel_rfl), law23_Small_f v8⟩) (by kernel_rfl))] 5 [] [(28, vb (!v8))] [] [] ?_
   exact q_J (!v8) hm

end Saw
end Go.SL
