import Derived.Test.YtpphchcejhodkaaDoorEBase
import Derived.Test.YtpphchcejhodkaaDoorELlaw23Small
import Derived.Test.YtpphchcejhodkaaDoorELlaw23awake
import Derived.Test.YtpphchcejhodkaaDoorELs
import Derived.Test.YtpphchcejhodkaaDoorEFa10
import Derived.Test.YtpphchcejhodkaaDoorEFa2
import Derived.Test.YtpphchcejhodkaaDoorEFa4
set_option linter.unusedVariables false
set_option linter.unusedSimpArgs false
namespace Go.SL
namespace Saw
open Go.Proofs
set_option maxHeartbeats 4000000
set_option maxRecDepth 100000
def qDa (r : Bool) : V := vb r
def qDm (r : Bool) : List (Nat × (Nat × O)) := []
def FW (x14 : Bool) : St :=
 ⟨[(2, vb x14)], []⟩
def FR (x27 : Bool) : St :=
 ⟨[(2, vb x27)], []⟩
theorem qCM (a1 : qP) (r : Bool) (hm : RZ a1 = some r) : CtX Tryd.prog globs 3 0 0 [.agg (zI a1)] [] (qDa r) (qDm r) := by
 unfold RZ at hm
 refine q_E Tryd.f3 84 fun E => ?_
 refine q_sq ?_
 refine q_vn [] 0 ⟨[(1, vp 0 0)], [(0, bx 34 (zI a1))]⟩ ?_
 refine q_sq ?_
 refine q_sq ?_
 obtain ⟨v2, h3, hm⟩ := qC hm
 refine q_vu [qc 1 [9] 1 (qHQ a1 v2 h3)] 1 [] [(11, vb (!v2))] [] [] ?_
 refine q_cn (!v2) (fun b4 => ?_) (fun b4 => ?_)
 ·replace hm := qA b4 hm
  refine q_sq ?_
  obtain ⟨v5, h6, hm⟩ := qC hm
  refine q_vn [qc 0 [] 1 (HP v5 h6)] 1 ⟨[(2, vb v5)], []⟩ ?_
  obtain rfl := Option.some.inj hm
  refine q_rt ?_
  exact q_rm
 ·replace hm := qB b4 hm
  refine q_sk ?_
  refine q_sq ?_
  obtain ⟨v7, h8, hm⟩ := qC hm
  refine q_vu [qc 1 [14] 1 (AR a1 v7 h8)] 1 [11] [(3, vo 1 0 2 v7.1.length), (4, vi v7.2.1), (5, vi v7.2.2)] [] [(1, ro 0 69 2 v7.1.length (rf e_Node v7.1))] ?_
  refine q_sq ?_
  refine q_sq ?_
  refine q_vu [] 2 [5] [(20, vb (v7.2.2 != 0))] [] [] ?_
  refine q_cn (v7.2.2 != 0) (fun b9 => ?_) (fun b9 => ?_)
  ·replace hm := qA b9 hm
   refine q_jn (ι := Bool) (fun p => FW p) (fun p => XA p = some r) ?_ ?_
   ·rintro x14 hm
    show H _ (FW x14) _ _
    obtain rfl := Option.some.inj hm
    refine q_rt ?_
    exact q_rm
   ·rcases Bool.eq_false_or_eq_true (((v7.1.length : Nat) : Int) == 0) with b10 | b10
    ·replace hm := qA b10 hm
     rcases Bool.eq_false_or_eq_true (v7.2.1 == 0) with b11 | b11
     ·replace hm := qA b11 hm
      obtain ⟨v12, h13, hm⟩ := qC hm
      refine q_vn [qf 3 b10, qf 7 b11, qk 8 [28] 2 ⟨[(28, vb true)], []⟩ (HP v12 h13)] 2 ⟨[(2, vb v12)], []⟩ ?_
      exact q_J (v12) hm
     ·replace hm := qB b11 hm
      refine q_vn [qf 3 b10, qf 7 b11] 2 ⟨[(2, vb false)], []⟩ ?_
      exact q_J (false) hm
    ·replace hm := qB b10 hm
     refine q_vn [qf 3 b10] 2 ⟨[(2, vb false)], []⟩ ?_
     exact q_J (false) hm
  ·replace hm := qB b9 hm
   refine q_sk ?_
   refine q_sq ?_
   obtain ⟨v15, h16, hm⟩ := qC hm
   refine q_vu [qd 14 (dex (cen [] [] 2 0 (qFS v15) (OD v15) [33, 35, 37, 41, 43, 45] [1])) (WA (K := (kx E 84 0)) (b := false) ⟨[(33, vc (tl qI default a1.Solid)), (35, vc (tl qH default a1.Defects)), (37, vc (tl qE default a1.Products)), (41, va [ci a1.Strip.X.A, ci a1.Strip.X.B, ci a1.Strip.Y.A, ci a1.Strip.Y.B, .own 1 0 2 v7.1.length]), (43, va (zL a1.Saw)), (45, va (zM a1.Rates))], [(1, ro 0 69 2 v7.1.length (rf e_Node v7.1))]⟩ (opAt (rg Tryd.f3 62) 14) [] [] 2 (o1 (Nat.le_refl v7.1.length)) rfl (qLh a1.Solid a1.Defects a1.Products (qF.mk a1.Strip v7.1) a1.Saw a1.Rates v15 h16) (.inr ⟨(by kernel_rfl), qMp v15⟩) (by kernel_rfl))] 2 [3, 20] [(6, vp 2 0), (7, vi v15.2)] [1] [(2, bx 42 (qD6 v15.1))] ?_
   refine q_sq ?_
   obtain ⟨v17, h18, hm⟩ := qC hm
   obtain ⟨v19, h20, hm⟩ := qC hm
   refine q_du [qc 10 [58] 3 (XQ a1.Solid v17 h18), qc 13 [50, 61] 3 (WQ a1.Solid (Box.mk a1.Strip.X a1.Strip.Y (Span.mk 0 v17)) v19 h20)] [0, 1, 0, 4, 12, 0, 32, 96, 0, 256, 768, 1792, 4092, 8191, 16383] 3 [] [(8, vi v19)] [] [] ?_
   refine q_jn (ι := Bool) (fun p => FR p) (fun p => YX p = some r) ?_ ?_
   ·rintro x27 hm
    show H _ (FR x27) _ _
    obtain rfl := Option.some.inj hm
    refine q_rt ?_
    exact q_rm
   ·rcases Bool.eq_false_or_eq_true (v15.2 == 0) with b21 | b21
    ·replace hm := qA b21 hm
     obtain ⟨v22, h23, hm⟩ := qC hm
     rcases Bool.eq_false_or_eq_true (v15.1.Value == (w64 (v7.2.1 + (w64 (a1.Rates.Chip * (w64 (v22 - v19))))))) with b24 | b24
     ·replace hm := qA b24 hm
      obtain ⟨v25, h26, hm⟩ := qC hm
      refine q_dn [qf 2 b21, qk 11 [65, 73] 3 ⟨[(65, vb true), (73, vc (tl qI default a1.Solid))], []⟩ (MY a1.Solid v22 h23), qf 18 b24, qk 19 [81] 3 ⟨[(81, vb true)], []⟩ (HP v25 h26)] [0, 1, 3, 7, 15, 7, 7, 71, 199, 7, 519, 1543, 7, 7687, 16327, 32743, 65535, 131071, 262143, 524287, 1048575, 2097151] 3 ⟨[(2, vb v25)], []⟩ ?_
      exact q_J (v25) hm
     ·replace hm := qB b24 hm
      refine q_dn [qf 2 b21, qk 11 [65, 73] 3 ⟨[(65, vb true), (73, vc (tl qI default a1.Solid))], []⟩ (MY a1.Solid v22 h23), qf 18 b24] [0, 1, 3, 7, 15, 7, 7, 71, 199, 7, 519, 1543, 7, 7687, 16327, 32743, 65535, 131071, 262143, 524287, 1048575, 2097151] 3 ⟨[(2, vb false)], []⟩ ?_
      exact q_J (false) hm
    ·replace hm := qB b21 hm
     refine q_dn [qf 2 b21] [0, 1, 3, 7, 15, 7, 7, 71, 199, 7, 519, 1543, 7, 7687, 16327, 32743, 65535, 131071, 262143, 524287, 1048575, 2097151] 3 ⟨[(2, vb false)], []⟩ ?_
     exact q_J (false) hm
end Saw
end Go.SL
