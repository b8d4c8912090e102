import Derived.Test.YtjobdnkaonbgnaaEBase
import Derived.Test.YtjobdnkaonbgnaaELlaw22awake
import Derived.Test.YtjobdnkaonbgnaaELs
import Derived.Test.YtjobdnkaonbgnaaEFa4
import Derived.Test.YtjobdnkaonbgnaaEFa1
import Derived.Test.YtjobdnkaonbgnaaELlaw22Small
set_option linter.unusedVariables false
set_option linter.unusedSimpArgs false
namespace Go.SL
namespace Saw
open Go.Proofs
set_option maxHeartbeats 4000000
set_option maxRecDepth 100000
def CN (r : Bool) : V := vb r
def CS (r : Bool) : List (Nat × (Nat × O)) := []
def VQ (x44 : Bool) : St :=
 ⟨[(6, vb x44)], []⟩
def VU (a1 : Law22_Given) (v23 : Yield × Int) (v25 : Yield × Int) (v27 : Yield × Int) (x31 : Bool) : St :=
 ⟨[(3, vp 0 0), (11, vp 4 0), (12, vp 6 0), (14, vp 7 0), (16, vp 8 0), (142, vb x31)], [(0, bx 37 (qM a1)), (4, bx 26 [ci a1.Pattern.Frame.Y.B, ci (w64 (a1.Pattern.Frame.Y.B + a1.Saw.Kerf))]), (6, bx 41 (zM v23.1)), (7, bx 41 (zM v25.1)), (8, bx 41 (zM v27.1))]⟩
def VK (a1 : Law22_Given) (a2 : List Node) (a3 : Int) (x17 : Bool) : St :=
 ⟨[(1, vc (tl qX default a2)), (2, vi a3), (3, vp 0 0), (7, vp 1 0), (8, vp 2 0), (9, vp 3 0), (10, vi a1.Pattern.Frame.Y.B), (73, vb x17)], [(0, bx 37 (qM a1)), (1, bx 37 (qM a1)), (2, bx 37 (qM a1)), (3, bx 37 (qM a1))]⟩
def VV (a1 : Law22_Given) (a2 : List Node) (a3 : Int) (x10 : Bool) : St :=
 ⟨[(1, vc (tl qX default a2)), (2, vi a3), (3, vp 0 0), (41, vb x10)], [(0, bx 37 (qM a1))]⟩
theorem OA (a1 : Law22_Given) (a2 : List Node) (a3 : Int) (r : Bool) (hm : YV a1 a2 a3 = some r) : CtX Try.prog globs 5 0 0 [.agg (qM a1), .one (tl qX default a2), .one (ci a3)] [] (CN r) (CS r) := by
 unfold YV at hm
 refine q_E Try.f5 187 fun E => ?_
 refine q_sq ?_
 refine q_vn [] 0 ⟨[(1, vc (tl qX default a2)), (2, vi a3), (3, vp 0 0)], [(0, bx 37 (qM a1))]⟩ ?_
 refine q_sq ?_
 refine q_jn (ι := Bool) (fun p => VV a1 a2 a3 p) (fun p => zI a1 a2 a3 p = some r) ?_ ?_
 ·rintro x10 hm
  show H _ (VV a1 a2 a3 x10) _ _
  refine q_cn x10 (fun b11 => ?_) (fun b11 => ?_)
  ·replace hm := qA b11 hm
   refine q_sq ?_
   obtain ⟨v12, h13, hm⟩ := qC hm
   refine q_vn [qc 0 [] 1 (TX v12 h13)] 1 ⟨[(6, vb v12)], []⟩ ?_
   obtain rfl := Option.some.inj hm
   refine q_rt ?_
   exact q_rm
  ·replace hm := qB b11 hm
   refine q_sk ?_
   refine q_sq ?_
   refine q_du [] [0, 0, 0, 0, 0, 0, 57, 123, 255] 1 [41] [(7, vp 1 0), (8, vp 2 0), (9, vp 3 0)] [] [(1, bx 37 (qM a1)), (2, bx 37 (qM a1)), (3, bx 37 (qM a1))] ?_
   refine q_sq ?_
   refine q_vu [] 4 [] [(10, vi a1.Pattern.Frame.Y.B)] [] [] ?_
   refine q_sq ?_
   refine q_jn (ι := Bool) (fun p => VK a1 a2 a3 p) (fun p => zO a1 a2 a3 p = some r) ?_ ?_
   ·rintro x17 hm
    show H _ (VK a1 a2 a3 x17) _ _
    refine q_cn x17 (fun b18 => ?_) (fun b18 => ?_)
    ·replace hm := qA b18 hm
     refine q_sq ?_
     obtain ⟨v19, h20, hm⟩ := qC hm
     refine q_vn [qc 0 [] 4 (TX v19 h20)] 4 ⟨[(6, vb v19)], []⟩ ?_
     obtain rfl := Option.some.inj hm
     refine q_rt ?_
     exact q_rm
    ·replace hm := qB b18 hm
     refine q_sk ?_
     refine q_sq ?_
     refine q_vu [] 4 [73] [(11, vp 4 0)] [] [(4, bx 26 [ci a1.Pattern.Frame.Y.B, ci (w64 (a1.Pattern.Frame.Y.B + a1.Saw.Kerf))])] ?_
     refine q_sq ?_
     refine q_vu [] 5 [] [] [2] [(2, bx 37 [tl qH default a1.Solid, tl qG default a1.Defects, tl qD default a1.Products, ci a1.Pattern.Frame.X.A, ci a1.Pattern.Frame.X.B, ci (w64 (a1.Pattern.Frame.Y.B + a1.Saw.Kerf)), ci a3, tl qX default a1.Pattern.Nodes, ci a1.Saw.Kerf, ci a1.Saw.Trim, ci a1.Saw.Pitch, ci a1.Saw.Step, ci a1.Rates.Chip, ci a1.Rates.Dust, ci a1.Rates.Fine])] ?_
     refine q_sq ?_
     refine q_vu [] 5 [] [] [2] [(2, bx 37 [tl qH default a1.Solid, tl qG default a1.Defects, tl qD default a1.Products, ci a1.Pattern.Frame.X.A, ci a1.Pattern.Frame.X.B, ci (w64 (a1.Pattern.Frame.Y.B + a1.Saw.Kerf)), ci a3, tl qX default a2, ci a1.Saw.Kerf, ci a1.Saw.Trim, ci a1.Saw.Pitch, ci a1.Saw.Step, ci a1.Rates.Chip, ci a1.Rates.Dust, ci a1.Rates.Fine])] ?_
     refine q_sq ?_
     refine q_vu [] 5 [2] [] [3] [(3, bx 37 [tl qH default a1.Solid, tl qG default a1.Defects, tl qD default a1.Products, ci a1.Pattern.Frame.X.A, ci a1.Pattern.Frame.X.B, ci a1.Pattern.Frame.Y.A, ci a3, tl qX default a1.Pattern.Nodes, ci a1.Saw.Kerf, ci a1.Saw.Trim, ci a1.Saw.Pitch, ci a1.Saw.Step, ci a1.Rates.Chip, ci a1.Rates.Dust, ci a1.Rates.Fine])] ?_
     refine q_sq ?_
     refine q_vu [qd 2 (drw 5 0 (rf qX ([(Node.mk 3 a1.Pattern.Frame.Y.B)] : List Node))) (litP qX default 2 (fun _ => rfl) ([(Node.mk 3 a1.Pattern.Frame.Y.B)] : List Node) 1 rfl)] 5 [10] [] [3] [(3, bx 37 [tl qH default a1.Solid, tl qG default a1.Defects, tl qD default a1.Products, ci a1.Pattern.Frame.X.A, ci a1.Pattern.Frame.X.B, ci a1.Pattern.Frame.Y.A, ci a3, .own 5 0 2 1, ci a1.Saw.Kerf, ci a1.Saw.Trim, ci a1.Saw.Pitch, ci a1.Saw.Step, ci a1.Rates.Chip, ci a1.Rates.Dust, ci a1.Rates.Fine]), (5, ro 0 59 2 1 (rf qX ([(Node.mk 3 a1.Pattern.Frame.Y.B)] : List Node)))] ?_
     refine q_sq ?_
     obtain ⟨g21, hm⟩ := qQ hm
     refine q_vu [qd 6 (drw 5 1 (rf qX (([(Node.mk 3 a1.Pattern.Frame.Y.B)] : List Node) ++ a1.Pattern.Nodes))) (apP qX default ([(Node.mk 3 a1.Pattern.Frame.Y.B)] : List Node) a1.Pattern.Nodes 1 a1.Pattern.Nodes.length 2 16 (True) trivial rfl rfl (fun _ => rfl) (WK g21))] 6 [] [] [3, 5] [(3, bx 37 [tl qH default a1.Solid, tl qG default a1.Defects, tl qD default a1.Products, ci a1.Pattern.Frame.X.A, ci a1.Pattern.Frame.X.B, ci a1.Pattern.Frame.Y.A, ci a3, .own 5 1 2 (1 + a1.Pattern.Nodes.length), ci a1.Saw.Kerf, ci a1.Saw.Trim, ci a1.Saw.Pitch, ci a1.Saw.Step, ci a1.Rates.Chip, ci a1.Rates.Dust, ci a1.Rates.Fine]), (5, ro 1 59 2 (1 + a1.Pattern.Nodes.length) (rf qX (([(Node.mk 3 a1.Pattern.Frame.Y.B)] : List Node) ++ a1.Pattern.Nodes)))] ?_
     refine q_sq ?_
     obtain ⟨g22, hm⟩ := qQ hm
     refine q_vu [qd 4 (drw 5 2 (rf qX ((([(Node.mk 3 a1.Pattern.Frame.Y.B)] : List Node) ++ a1.Pattern.Nodes) ++ a2))) (apP qX default (([(Node.mk 3 a1.Pattern.Frame.Y.B)] : List Node) ++ a1.Pattern.Nodes) a2 (1 + a1.Pattern.Nodes.length) a2.length 2 16 (True) trivial (len_app rfl rfl) rfl (fun _ => rfl) (WK g22))] 6 [1] [] [3, 5] [(3, bx 37 [tl qH default a1.Solid, tl qG default a1.Defects, tl qD default a1.Products, ci a1.Pattern.Frame.X.A, ci a1.Pattern.Frame.X.B, ci a1.Pattern.Frame.Y.A, ci a3, .own 5 2 2 ((1 + a1.Pattern.Nodes.length) + a2.length), ci a1.Saw.Kerf, ci a1.Saw.Trim, ci a1.Saw.Pitch, ci a1.Saw.Step, ci a1.Rates.Chip, ci a1.Rates.Dust, ci a1.Rates.Fine]), (5, ro 2 59 2 ((1 + a1.Pattern.Nodes.length) + a2.length) (rf qX ((([(Node.mk 3 a1.Pattern.Frame.Y.B)] : List Node) ++ a1.Pattern.Nodes) ++ a2)))] ?_
     refine q_sq ?_
     obtain ⟨v23, h24, hm⟩ := qC hm
     refine q_vu [qc 1 [119] 6 (law22_of_ok a1 v23 h24)] 6 [7] [(12, vp 6 0), (13, vi v23.2)] [1] [(6, bx 41 (zM v23.1))] ?_
     refine q_sq ?_
     obtain ⟨v25, h26, hm⟩ := qC hm
     refine q_vu [qc 1 [124] 7 (law22_of_ok (Law22_Given.mk a1.Solid a1.Defects a1.Products (Pattern.mk (Rect.mk a1.Pattern.Frame.X (Span.mk (w64 (a1.Pattern.Frame.Y.B + a1.Saw.Kerf)) a3)) a2) a1.Saw a1.Rates) v25 h26)] 7 [8] [(14, vp 7 0), (15, vi v25.2)] [2] [(7, bx 41 (zM v25.1))] ?_
     refine q_sq ?_
     obtain ⟨v27, h28, hm⟩ := qC hm
     refine q_vu [qd 1 (dex (cen [] [] 8 0 (MW v27) (TZ v27) [129] [5])) (UF (K := (kx E 187 0)) (xs' := [.agg [tl qH default a1.Solid, tl qG default a1.Defects, tl qD default a1.Products, ci a1.Pattern.Frame.X.A, ci a1.Pattern.Frame.X.B, ci a1.Pattern.Frame.Y.A, ci a3, .lst ((1 + a1.Pattern.Nodes.length) + a2.length) (rf qX ((([(Node.mk 3 a1.Pattern.Frame.Y.B)] : List Node) ++ a1.Pattern.Nodes) ++ a2)), ci a1.Saw.Kerf, ci a1.Saw.Trim, ci a1.Saw.Pitch, ci a1.Saw.Step, ci a1.Rates.Chip, ci a1.Rates.Dust, ci a1.Rates.Fine]]) (b := false) ⟨[(129, va [tl qH default a1.Solid, tl qG default a1.Defects, tl qD default a1.Products, ci a1.Pattern.Frame.X.A, ci a1.Pattern.Frame.X.B, ci a1.Pattern.Frame.Y.A, ci a3, .own 5 2 2 ((1 + a1.Pattern.Nodes.length) + a2.length), ci a1.Saw.Kerf, ci a1.Saw.Trim, ci a1.Saw.Pitch, ci a1.Saw.Step, ci a1.Rates.Chip, ci a1.Rates.Dust, ci a1.Rates.Fine])], [(5, ro 2 59 2 ((1 + a1.Pattern.Nodes.length) + a2.length) (rf qX ((([(Node.mk 3 a1.Pattern.Frame.Y.B)] : List Node) ++ a1.Pattern.Nodes) ++ a2)))]⟩ (opAt (rg Try.f5 65534) 1) [] [] 8 (o1 (Nat.le_refl ((1 + a1.Pattern.Nodes.length) + a2.length))) (by simp only [tl, rf, qM, show ((([(Node.mk 3 a1.Pattern.Frame.Y.B)] : List Node) ++ a1.Pattern.Nodes) ++ a2).length = ((1 + a1.Pattern.Nodes.length) + a2.length) from (len_app (len_app rfl rfl) rfl)]) (law22_of_ok (Law22_Given.mk a1.Solid a1.Defects a1.Products (Pattern.mk (Rect.mk a1.Pattern.Frame.X (Span.mk a1.Pattern.Frame.Y.A a3)) ((([(Node.mk 3 a1.Pattern.Frame.Y.B)] : List Node) ++ a1.Pattern.Nodes) ++ a2)) a1.Saw a1.Rates) v27 h28) (.inr ⟨(by kernel_rfl), OQ v27⟩) (by kernel_rfl))] 8 [9] [(16, vp 8 0), (17, vi v27.2)] [3, 5] [(8, bx 41 (zM v27.1))] ?_
     refine q_sq ?_
     refine q_jn (ι := Bool) (fun p => VU a1 v23 v25 v27 p) (fun p => wE a1 v23 v25 v27 p = some r) ?_ ?_
     ·rintro x31 hm
      show H _ (VU a1 v23 v25 v27 x31) _ _
      refine q_cn x31 (fun b32 => ?_) (fun b32 => ?_)
      ·replace hm := qA b32 hm
       refine q_sq ?_
       obtain ⟨v33, h34, hm⟩ := qC hm
       refine q_vn [qc 0 [] 9 (TX v33 h34)] 9 ⟨[(6, vb v33)], []⟩ ?_
       obtain rfl := Option.some.inj hm
       refine q_rt ?_
       exact q_rm
      ·replace hm := qB b32 hm
       refine q_sk ?_
       refine q_sq ?_
       obtain ⟨v35, h36, hm⟩ := qC hm
       obtain ⟨v37, h38, hm⟩ := qC hm
       refine q_du [qc 9 [152] 9 (DK a1.Solid v35 h36), qc 12 [145, 155] 9 (JR a1.Solid (Box.mk a1.Pattern.Frame.X (Span.mk a1.Pattern.Frame.Y.B (w64 (a1.Pattern.Frame.Y.B + a1.Saw.Kerf))) (Span.mk 0 v35)) v37 h38)] [0, 1, 0, 4, 12, 28, 0, 0, 128, 384, 896, 2044, 4095, 8191] 9 [3, 11, 142] [(18, vi v37)] [0, 4] [] ?_
       refine q_jn (ι := Bool) (fun p => VQ p) (fun p => yO p = some r) ?_ ?_
       ·rintro x44 hm
        show H _ (VQ x44) _ _
        obtain rfl := Option.some.inj hm
        refine q_rt ?_
        exact q_rm
       ·rcases Bool.eq_false_or_eq_true (v27.1.Boards == (w64 (v23.1.Boards + v25.1.Boards))) with b39 | b39
        ·replace hm := qA b39 hm
         rcases Bool.eq_false_or_eq_true (v27.1.Dust == (w64 ((w64 (v23.1.Dust + v25.1.Dust)) + v37))) with b40 | b40
         ·replace hm := qA b40 hm
          rcases Bool.eq_false_or_eq_true (v27.1.Log == v23.1.Log) with b41 | b41
          ·replace hm := qA b41 hm
           obtain ⟨v42, h43, hm⟩ := qC hm
           refine q_vn [qf 8 b39, qf 20 b40, qf 27 b41, qk 28 [184] 9 ⟨[(184, vb true)], []⟩ (TX v42 h43)] 9 ⟨[(6, vb v42)], []⟩ ?_
           exact q_J (v42) hm
          ·replace hm := qB b41 hm
           refine q_vn [qf 8 b39, qf 20 b40, qf 27 b41] 9 ⟨[(6, vb false)], []⟩ ?_
           exact q_J (false) hm
         ·replace hm := qB b40 hm
          refine q_vn [qf 8 b39, qf 20 b40] 9 ⟨[(6, vb false)], []⟩ ?_
          exact q_J (false) hm
        ·replace hm := qB b39 hm
         refine q_vn [qf 8 b39] 9 ⟨[(6, vb false)], []⟩ ?_
         exact q_J (false) hm
     ·rcases Bool.eq_false_or_eq_true (v23.2 != 0) with b29 | b29
      ·replace hm := qA b29 hm
       refine q_vu [qf 2 b29] 9 [13, 15, 17] [(142, vb true)] [] [] ?_
       exact q_J (true) hm
      ·replace hm := qB b29 hm
       rcases Bool.eq_false_or_eq_true (v25.2 != 0) with b30 | b30
       ·replace hm := qA b30 hm
        refine q_vu [qf 2 b29, qf 6 b30] 9 [13, 15, 17] [(142, vb true)] [] [] ?_
        exact q_J (true) hm
       ·replace hm := qB b30 hm
        refine q_vu [qf 2 b29, qf 6 b30] 9 [13, 15, 17] [(142, vb (v27.2 != 0))] [] [] ?_
        exact q_J (v27.2 != 0) hm
   ·rcases Bool.eq_false_or_eq_true (decide (a1.Pattern.Frame.Y.B > 600)) with b14 | b14
    ·replace hm := qA b14 hm
     refine q_vu [qf 2 b14] 4 [] [(73, vb true)] [] [] ?_
     exact q_J (true) hm
    ·replace hm := qB b14 hm
     rcases Bool.eq_false_or_eq_true (decide (a1.Saw.Kerf < 0)) with b15 | b15
     ·replace hm := qA b15 hm
      refine q_vu [qf 2 b14, qf 8 b15] 4 [] [(73, vb true)] [] [] ?_
      exact q_J (true) hm
     ·replace hm := qB b15 hm
      rcases Bool.eq_false_or_eq_true (decide (a1.Saw.Kerf > 20)) with b16 | b16
      ·replace hm := qA b16 hm
       refine q_vu [qf 2 b14, qf 8 b15, qf 14 b16] 4 [] [(73, vb true)] [] [] ?_
       exact q_J (true) hm
      ·replace hm := qB b16 hm
       refine q_vu [qf 2 b14, qf 8 b15, qf 14 b16] 4 [] [(73, vb (decide ((w64 (a1.Pattern.Frame.Y.B + a1.Saw.Kerf)) ≥ a3)))] [] [] ?_
       exact q_J (decide ((w64 (a1.Pattern.Frame.Y.B + a1.Saw.Kerf)) ≥ a3)) hm
 ·obtain ⟨v4, h5, hm⟩ := qC hm
  rcases Bool.eq_false_or_eq_true (!v4) with b6 | b6
  ·replace hm := qA b6 hm
   refine q_vu [qc 1 [19] 1 (YX a1 v4 h5), qf 3 b6] 1 [] [(41, vb true)] [] [] ?_
   exact q_J (true) hm
  ·replace hm := qB b6 hm
   rcases Bool.eq_false_or_eq_true (decide (((a2.length : Nat) : Int) > 60)) with b7 | b7
   ·replace hm := qA b7 hm
    refine q_vu [qc 1 [19] 1 (YX a1 v4 h5), qf 3 b6, qf 8 b7] 1 [] [(41, vb true)] [] [] ?_
    exact q_J (true) hm
   ·replace hm := qB b7 hm
    rcases Bool.eq_false_or_eq_true (decide (((a1.Pattern.Nodes.length : Nat) : Int) > 60)) with b8 | b8
    ·replace hm := qA b8 hm
     refine q_vu [qc 1 [19] 1 (YX a1 v4 h5), qf 3 b6, qf 8 b7, qf 15 b8] 1 [] [(41, vb true)] [] [] ?_
     exact q_J (true) hm
    ·replace hm := qB b8 hm
     rcases Bool.eq_false_or_eq_true (decide (a3 < (-600))) with b9 | b9
     ·replace hm := qA b9 hm
      refine q_vu [qc 1 [19] 1 (YX a1 v4 h5), qf 3 b6, qf 8 b7, qf 15 b8, qf 19 b9] 1 [] [(41, vb true)] [] [] ?_
      exact q_J (true) hm
     ·replace hm := qB b9 hm
      refine q_vu [qc 1 [19] 1 (YX a1 v4 h5), qf 3 b6, qf 8 b7, qf 15 b8, qf 19 b9] 1 [] [(41, vb (decide (a3 > 600)))] [] [] ?_
      exact q_J (decide (a3 > 600)) hm
end Saw
end Go.SL
