import Derived.Test.YtidlfgiogdjkaaaGreatDoorEBase
import Derived.Test.YtidlfgiogdjkaaaGreatDoorELlaw24awake
import Derived.Test.YtidlfgiogdjkaaaGreatDoorELs
set_option linter.unusedVariables false
set_option linter.unusedSimpArgs false
namespace Go.SL
namespace Saw
open Go.Proofs
set_option maxHeartbeats 4000000
set_option maxRecDepth 100000
def qGU (r : Bool) : V := vb r
def qG1 (r : Bool) : List (Nat × (Nat × O)) := []
def HW (x34 : Bool) : St :=
 ⟨[(4, vb x34)], []⟩
def HU (a1 : Law24_Given) (a2 : Product) (x17 : Bool) : St :=
 ⟨[(2, vp 0 0), (5, vp 2 0), (38, vb x17)], [(0, bx 42 (zH a1)), (2, bx 42 [tl qG default a1.Solid, tl qF default a1.Defects, .own 3 0 7 ((0 + a1.Products.length) + 1), ci a1.Frame.X.A, ci a1.Frame.X.B, ci a1.Frame.Y.A, ci a1.Frame.Y.B, ci a1.Saw.Kerf, ci a1.Saw.Trim, ci a1.Saw.Pitch, ci a1.Saw.Step, ci a1.Rates.Chip, ci a1.Rates.Dust, ci a1.Rates.Fine]), (3, ro 0 54 7 ((0 + a1.Products.length) + 1) (rf qC ((([] : List Product) ++ a1.Products) ++ ([a2] : List Product))))]⟩
def HX (a1 : Law24_Given) (a2 : Product) (x6 : Bool) : St :=
 ⟨[(2, vp 0 0), (3, vp 1 0), (20, vb x6)], [(0, bx 42 (zH a1)), (1, bx 54 (qC a2))]⟩
theorem qFQ (a1 : Law24_Given) (a2 : Product) (r : Bool) (hm : DU a1 a2 = some r) : CtX Tryz.prog globs 6 0 0 [.agg (zH a1), .agg (qC a2)] [] (qGU r) (qG1 r) := by
 unfold DU at hm
 refine q_E Tryz.f6 66 fun E => ?_
 refine s_vn [] 0 ⟨[(2, vp 0 0), (3, vp 1 0)], [(0, bx 42 (zH a1)), (1, bx 54 (qC a2))]⟩ ?_
 refine q_sq ?_
 refine q_jn (ι := Bool) (fun p => HX a1 a2 p) (fun p => ND a1 a2 p = some r) ?_ ?_
 ·rintro x6 hm
  show H _ (HX a1 a2 x6) _ _
  refine q_cm hm (fun b7 hm => ?_) (fun b7 hm => ?_)
  ·obtain ⟨v8, h9, hm⟩ := qB hm
   refine s_vn [qc 0 [] 2 (PF v8 h9)] 2 ⟨[(4, vb v8)], []⟩ ?_
   obtain rfl := oi hm
   refine q_rt ?_
   exact q_rm
  ·refine q_sk ?_
   refine s_vu [] 2 [20] [(5, vp 2 0)] [] [(2, bx 42 (zH a1))] ?_
   obtain ⟨g10, hm⟩ := qI hm
   obtain ⟨g11, hm⟩ := qI hm
   refine s_du [qd 0 (drw 3 0 (rf qC ([] : List Product))) (litP qC default 7 (fun _ => rfl) ([] : List Product) 0 rfl), qd 3 (drw 3 1 (rf qC (([] : List Product) ++ a1.Products))) (apP qC default ([] : List Product) a1.Products 0 a1.Products.length 7 96 (True) trivial rfl rfl (fun _ => rfl) (zO g10)), qd 5 (drw 4 0 (rf qC ([a2] : List Product))) (litP qC default 7 (fun _ => rfl) ([a2] : List Product) 1 rfl), qd 6 (drw 3 2 (rf qC ((([] : List Product) ++ a1.Products) ++ ([a2] : List Product)))) (apP qC default (([] : List Product) ++ a1.Products) ([a2] : List Product) (0 + a1.Products.length) 1 7 96 (1 ≤ 1) (Nat.le_refl _) (len_app rfl rfl) rfl (fun _ => rfl) (zO g11))] [0, 0, 2, 7, 0, 16, 63, 127, 255] 3 [3] [] [1, 2] [(2, bx 42 [tl qG default a1.Solid, tl qF default a1.Defects, .own 3 2 7 ((0 + a1.Products.length) + 1), ci a1.Frame.X.A, ci a1.Frame.X.B, ci a1.Frame.Y.A, ci a1.Frame.Y.B, ci a1.Saw.Kerf, ci a1.Saw.Trim, ci a1.Saw.Pitch, ci a1.Saw.Step, ci a1.Rates.Chip, ci a1.Rates.Dust, ci a1.Rates.Fine]), (3, ro 2 54 7 ((0 + a1.Products.length) + 1) (rf qC ((([] : List Product) ++ a1.Products) ++ ([a2] : List Product))))] ?_
   refine q_sq ?_
   refine q_jn (ι := Bool) (fun p => HU a1 a2 p) (fun p => NA a1 a2 p = some r) ?_ ?_
   ·rintro x17 hm
    show H _ (HU a1 a2 x17) _ _
    refine q_cm hm (fun b18 hm => ?_) (fun b18 hm => ?_)
    ·obtain ⟨v19, h20, hm⟩ := qB hm
     refine s_vn [qc 0 [] 5 (PF v19 h20)] 5 ⟨[(4, vb v19)], []⟩ ?_
     obtain rfl := oi hm
     refine q_rt ?_
     exact q_rm
    ·refine q_sk ?_
     obtain ⟨v21, h22, hm⟩ := qB hm
     refine s_vu [qc 1 [41] 5 (law24_best_ok a1 v21 h22)] 5 [2, 38] [(7, vi v21.2.1), (8, vi v21.2.2)] [0] [] ?_
     obtain ⟨v23, h24, hm⟩ := qB hm
     refine s_vu [qd 1 (dex (cen [] [] 7 0 (HP v23) (RD v23) [47] [3])) (wR (K := (kx E 66 0)) (xs' := [.agg [tl qG default a1.Solid, tl qF default a1.Defects, .lst ((0 + a1.Products.length) + 1) (rf qC ((([] : List Product) ++ a1.Products) ++ ([a2] : List Product))), ci a1.Frame.X.A, ci a1.Frame.X.B, ci a1.Frame.Y.A, ci a1.Frame.Y.B, ci a1.Saw.Kerf, ci a1.Saw.Trim, ci a1.Saw.Pitch, ci a1.Saw.Step, ci a1.Rates.Chip, ci a1.Rates.Dust, ci a1.Rates.Fine]]) (b := false) ⟨[(47, va [tl qG default a1.Solid, tl qF default a1.Defects, .own 3 0 7 ((0 + a1.Products.length) + 1), ci a1.Frame.X.A, ci a1.Frame.X.B, ci a1.Frame.Y.A, ci a1.Frame.Y.B, ci a1.Saw.Kerf, ci a1.Saw.Trim, ci a1.Saw.Pitch, ci a1.Saw.Step, ci a1.Rates.Chip, ci a1.Rates.Dust, ci a1.Rates.Fine])], [(3, ro 0 54 7 ((0 + a1.Products.length) + 1) (rf qC ((([] : List Product) ++ a1.Products) ++ ([a2] : List Product))))]⟩ (opAt (rg Tryz.f6 254) 1) [] [] 7 (o1 (Nat.le_refl ((0 + a1.Products.length) + 1))) (by simp only [tl, rf, zH, show ((([] : List Product) ++ a1.Products) ++ ([a2] : List Product)).length = ((0 + a1.Products.length) + 1) from (len_app (len_app rfl rfl) rfl)]) (law24_best_ok (Law24_Given.mk a1.Solid a1.Defects ((([] : List Product) ++ a1.Products) ++ ([a2] : List Product)) a1.Frame a1.Saw a1.Rates) v23 h24) (.inr ⟨(by kernel_rfl), qA9 v23⟩) (by kernel_rfl))] 7 [5] [(10, vi v23.2.1), (11, vi v23.2.2)] [2, 3] [] ?_
     refine q_jn (ι := Bool) (fun p => HW p) (fun p => wE p = some r) ?_ ?_
     ·rintro x34 hm
      show H _ (HW x34) _ _
      obtain rfl := oi hm
      refine q_rt ?_
      exact q_rm
     ·rcases bif_c hm with ⟨b25, hm⟩ | ⟨b25, hm⟩
      ·obtain ⟨v26, h27, hm⟩ := qB hm
       refine q_vn [qf 2 b25, qk 12 [63] 9 ⟨[(63, vb true)], []⟩ (PF v26 h27)] 9 ⟨[(4, vb v26)], []⟩ ?_
       exact q_J (v26) hm
      ·rcases bif_c hm with ⟨b28, hm⟩ | ⟨b28, hm⟩
       ·obtain ⟨v29, h30, hm⟩ := qB hm
        refine q_vn [qf 2 b25, qf 6 b28, qk 12 [63] 9 ⟨[(63, vb true)], []⟩ (PF v29 h30)] 9 ⟨[(4, vb v29)], []⟩ ?_
        exact q_J (v29) hm
       ·rcases bif_c hm with ⟨b31, hm⟩ | ⟨b31, hm⟩
        ·obtain ⟨v32, h33, hm⟩ := qB hm
         refine q_vn [qf 2 b25, qf 6 b28, qf 11 b31, qk 12 [63] 9 ⟨[(63, vb true)], []⟩ (PF v32 h33)] 9 ⟨[(4, vb v32)], []⟩ ?_
         exact q_J (v32) hm
        ·refine q_vn [qf 2 b25, qf 6 b28, qf 11 b31] 9 ⟨[(4, vb false)], []⟩ ?_
         exact q_J (false) hm
   ·obtain ⟨v12, h13, hm⟩ := qB hm
    rcases bif_c hm with ⟨b14, hm⟩ | ⟨b14, hm⟩
    ·refine q_vu [qc 1 [31] 5 (SB a1 v12 h13), qf 3 b14] 5 [] [(38, vb true)] [] [] ?_
     exact q_J (true) hm
    ·obtain ⟨v15, h16, hm⟩ := qB hm
     refine q_vu [qc 1 [31] 5 (SB a1 v12 h13), qf 3 b14, qd 5 (dex (cen [] [] 5 0 (qDY v15) (FH v15) [34, 35] [3])) (wR (K := (kx E 66 0)) (xs' := [.agg [tl qG default a1.Solid, tl qF default a1.Defects, .lst ((0 + a1.Products.length) + 1) (rf qC ((([] : List Product) ++ a1.Products) ++ ([a2] : List Product))), ci a1.Frame.X.A, ci a1.Frame.X.B, ci a1.Frame.Y.A, ci a1.Frame.Y.B, ci a1.Saw.Kerf, ci a1.Saw.Trim, ci a1.Saw.Pitch, ci a1.Saw.Step, ci a1.Rates.Chip, ci a1.Rates.Dust, ci a1.Rates.Fine]]) (b := false) ⟨[(34, vb false), (35, va [tl qG default a1.Solid, tl qF default a1.Defects, .own 3 2 7 ((0 + a1.Products.length) + 1), ci a1.Frame.X.A, ci a1.Frame.X.B, ci a1.Frame.Y.A, ci a1.Frame.Y.B, ci a1.Saw.Kerf, ci a1.Saw.Trim, ci a1.Saw.Pitch, ci a1.Saw.Step, ci a1.Rates.Chip, ci a1.Rates.Dust, ci a1.Rates.Fine])], [(3, ro 2 54 7 ((0 + a1.Products.length) + 1) (rf qC ((([] : List Product) ++ a1.Products) ++ ([a2] : List Product))))]⟩ (opAt (rg Tryz.f6 124) 5) [] [] 5 (o1 (Nat.le_refl ((0 + a1.Products.length) + 1))) (by simp only [tl, rf, zH, show ((([] : List Product) ++ a1.Products) ++ ([a2] : List Product)).length = ((0 + a1.Products.length) + 1) from (len_app (len_app rfl rfl) rfl)]) (SB (Law24_Given.mk a1.Solid a1.Defects ((([] : List Product) ++ a1.Products) ++ ([a2] : List Product)) a1.Frame a1.Saw a1.Rates) v15 h16) (.inr ⟨(by kernel_rfl), qKG v15⟩) (by kernel_rfl))] 5 [] [(38, vb (!v15))] [] [] ?_
     exact q_J (!v15) hm
 ·rcases bif_c hm with ⟨b3, hm⟩ | ⟨b3, hm⟩
  ·refine q_vu [qf 4 b3] 2 [] [(20, vb true)] [] [] ?_
   exact q_J (true) hm
  ·obtain ⟨v4, h5, hm⟩ := qB hm
   refine q_vu [qf 4 b3, qk 6 [16, 17] 2 ⟨[(16, vb false), (17, va (zH a1))], []⟩ (qI0 a1 v4 h5)] 2 [] [(20, vb (!v4))] [] [] ?_
   exact q_J (!v4) hm
end Saw
end Go.SL
