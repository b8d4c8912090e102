import Derived.Test.YtjobdnkaonbgnaaEBase
import Derived.Test.YtjobdnkaonbgnaaEFa1
import Derived.Test.YtjobdnkaonbgnaaEFa2
import Derived.Test.YtjobdnkaonbgnaaELlaw22awake
set_option linter.unusedVariables false
set_option linter.unusedSimpArgs false
namespace Go.SL
namespace Saw
open Go.Proofs
set_option maxHeartbeats 4000000
set_option maxRecDepth 100000
def OF (r : Bool) : V := vb r
def OH (r : Bool) : List (Nat × (Nat × O)) := []
def TP (x21 : Bool) : St :=
 ⟨[(4, vb x21)], []⟩
theorem AN (a1 : Yield) (a2 : Yield) (r : Bool) (hm : JU a1 a2 = some r) : CtX Try.prog globs 6 0 0 [.agg (qH a1), .agg (qH a2)] [] (OF r) (OH r) := by
 unfold JU at hm
 refine q_E Try.f6 46 fun E => ?_
 refine q_sq ?_
 refine q_vn [] 0 ⟨[(2, vp 0 0), (3, vp 1 0)], [(0, bx 41 (qH a1)), (1, bx 41 (qH a2))]⟩ ?_
 refine q_sq ?_
 obtain ⟨v3, h4, hm⟩ := qC hm
 refine q_vu [qc 2 [10, 11] 2 (qCZ a1 a2 v3 h4)] 2 [] [(5, vp 2 0), (6, vi v3.2)] [] [(2, bx 41 (qH v3.1))] ?_
 refine q_sq ?_
 obtain ⟨v5, h6, hm⟩ := qC hm
 refine q_vu [qc 2 [16, 17] 3 (qDz a1 a2 v5 h6)] 3 [3] [(7, vp 3 0), (8, vi v5.2)] [1] [(3, bx 41 (qH v5.1))] ?_
 refine q_jn (ι := Bool) (fun p => TP p) (fun p => wO p = some r) ?_ ?_
 ·rintro x21 hm
  show H _ (TP x21) _ _
  obtain rfl := Option.some.inj hm
  refine q_rt ?_
  exact q_rm
 ·rcases Bool.eq_false_or_eq_true ((v3.1.Log == v5.1.Log) && ((v3.1.Boards == v5.1.Boards) && ((v3.1.Chips == v5.1.Chips) && ((v3.1.Dust == v5.1.Dust) && ((v3.1.Value == v5.1.Value) && true))))) with b7 | b7
  ·replace hm := qA b7 hm
   rcases Bool.eq_false_or_eq_true (v3.2 == v5.2) with b8 | b8
   ·replace hm := qA b8 hm
    obtain ⟨v9, h10, hm⟩ := qC hm
    obtain ⟨v11, h12, hm⟩ := qC hm
    rcases Bool.eq_false_or_eq_true (v9 == v11) with b13 | b13
    ·replace hm := qA b13 hm
     obtain ⟨v14, h15, hm⟩ := qC hm
     obtain ⟨v16, h17, hm⟩ := qC hm
     rcases Bool.eq_false_or_eq_true (v14 == v16) with b18 | b18
     ·replace hm := qA b18 hm
      obtain ⟨v19, h20, hm⟩ := qC hm
      refine q_dn [qf 3 b7, qf 8 b8, qk 10 [29, 30] 4 ⟨[(29, vb true), (30, va (qH a1))], []⟩ (wY a1 v9 h10), qk 12 [29, 32] 4 ⟨[(29, vb true), (32, va (qH a1))], []⟩ (jW a1 v11 h12), qf 15 b13, qk 17 [36, 37] 4 ⟨[(36, vb true), (37, va (qH a1))], []⟩ (ZB a1 v14 h15), qk 19 [36, 39] 4 ⟨[(36, vb true), (39, va (qH a1))], []⟩ (NC a1 v16 h17), qf 22 b18, qk 23 [43] 4 ⟨[(43, vb true)], []⟩ (qBz v19 h20)] [0, 0, 3, 7, 15, 15, 63, 127, 255, 511, 1023, 511, 4095, 8191, 16383, 32767, 65535, 131071, 65535, 524287, 1048575, 2097151, 4194303, 8388607, 16777215, 33554431] 4 ⟨[(4, vb v19)], []⟩ ?_
      exact q_J (v19) hm
     ·replace hm := qB b18 hm
      refine q_dn [qf 3 b7, qf 8 b8, qk 10 [29, 30] 4 ⟨[(29, vb true), (30, va (qH a1))], []⟩ (wY a1 v9 h10), qk 12 [29, 32] 4 ⟨[(29, vb true), (32, va (qH a1))], []⟩ (jW a1 v11 h12), qf 15 b13, qk 17 [36, 37] 4 ⟨[(36, vb true), (37, va (qH a1))], []⟩ (ZB a1 v14 h15), qk 19 [36, 39] 4 ⟨[(36, vb true), (39, va (qH a1))], []⟩ (NC a1 v16 h17), qf 22 b18] [0, 0, 3, 7, 15, 15, 63, 127, 255, 511, 1023, 511, 4095, 8191, 16383, 32767, 65535, 131071, 65535, 524287, 1048575, 2097151, 4194303, 8388607, 16777215, 33554431] 4 ⟨[(4, vb false)], []⟩ ?_
      exact q_J (false) hm
    ·replace hm := qB b13 hm
     refine q_dn [qf 3 b7, qf 8 b8, qk 10 [29, 30] 4 ⟨[(29, vb true), (30, va (qH a1))], []⟩ (wY a1 v9 h10), qk 12 [29, 32] 4 ⟨[(29, vb true), (32, va (qH a1))], []⟩ (jW a1 v11 h12), qf 15 b13] [0, 0, 3, 7, 15, 15, 63, 127, 255, 511, 1023, 511, 4095, 8191, 16383, 32767, 65535, 131071, 65535, 524287, 1048575, 2097151, 4194303, 8388607, 16777215, 33554431] 4 ⟨[(4, vb false)], []⟩ ?_
     exact q_J (false) hm
   ·replace hm := qB b8 hm
    refine q_dn [qf 3 b7, qf 8 b8] [0, 0, 3, 7, 15, 15, 63, 127, 255, 511, 1023, 511, 4095, 8191, 16383, 32767, 65535, 131071, 65535, 524287, 1048575, 2097151, 4194303, 8388607, 16777215, 33554431] 4 ⟨[(4, vb false)], []⟩ ?_
    exact q_J (false) hm
  ·replace hm := qB b7 hm
   refine q_dn [qf 3 b7] [0, 0, 3, 7, 15, 15, 63, 127, 255, 511, 1023, 511, 4095, 8191, 16383, 32767, 65535, 131071, 65535, 524287, 1048575, 2097151, 4194303, 8388607, 16777215, 33554431] 4 ⟨[(4, vb false)], []⟩ ?_
   exact q_J (false) hm
end Saw
end Go.SL
