import Derived.Test.YtjobdnkaonbgnaaEBase
import Derived.Test.YtjobdnkaonbgnaaEFa1
import Derived.Test.YtjobdnkaonbgnaaELlaw22awake
import Derived.Test.YtjobdnkaonbgnaaEFa8
set_option linter.unusedVariables false
set_option linter.unusedSimpArgs false
namespace Go.SL
namespace Saw
open Go.Proofs
set_option maxHeartbeats 4000000
set_option maxRecDepth 100000
def II (r : Bool) : V := vb r
def AX (r : Bool) : List (Nat × (Nat × O)) := []
def RL (x30 : Bool) : St :=
 ⟨[(4, vb x30)], []⟩
def TH (a1 : Yield) (a2 : Yield) (v3 : Yield × Int) (x20 : Bool) : St :=
 ⟨[(2, vp 0 0), (3, vp 1 0), (5, vp 2 0), (58, vb x20)], [(0, bx 41 (qL a1)), (1, bx 41 (qL a2)), (2, bx 41 (qL v3.1))]⟩
def RU (a1 : Yield) (a2 : Yield) (v3 : Yield × Int) (x10 : Bool) : St :=
 ⟨[(2, vp 0 0), (3, vp 1 0), (5, vp 2 0), (6, vi v3.2), (36, vb x10)], [(0, bx 41 (qL a1)), (1, bx 41 (qL a2)), (2, bx 41 (qL v3.1))]⟩
theorem SS (a1 : Yield) (a2 : Yield) (r : Bool) (hm : WY a1 a2 = some r) : CtX Try.prog globs 7 0 0 [.agg (qL a1), .agg (qL a2)] [] (II r) (AX r) := by
 unfold WY at hm
 refine q_E Try.f7 75 fun E => ?_
 refine q_sq ?_
 refine q_vn [] 0 ⟨[(2, vp 0 0), (3, vp 1 0)], [(0, bx 41 (qL a1)), (1, bx 41 (qL a2))]⟩ ?_
 refine q_sq ?_
 obtain ⟨v3, h4, hm⟩ := qC hm
 refine q_vu [qc 2 [10, 11] 2 (EB a1 a2 v3 h4)] 2 [] [(5, vp 2 0), (6, vi v3.2)] [] [(2, bx 41 (qL v3.1))] ?_
 refine q_sq ?_
 obtain ⟨v5, h6, hm⟩ := qC hm
 refine q_vu [qc 2 [16, 17] 3 (EB a2 a1 v5 h6)] 3 [] [(7, vp 3 0), (8, vi v5.2)] [] [(3, bx 41 (qL v5.1))] ?_
 refine q_sq ?_
 refine q_jn (ι := Bool) (fun p => RU a1 a2 v3 p) (fun p => zK a1 a2 v3 p = some r) ?_ ?_
 ·rintro x10 hm
  show H _ (RU a1 a2 v3 x10) _ _
  refine q_cn x10 (fun b11 => ?_) (fun b11 => ?_)
  ·replace hm := qB b11 hm
   refine q_sq ?_
   refine q_vn [] 4 ⟨[(4, vb false)], []⟩ ?_
   obtain rfl := Option.some.inj hm
   refine q_rt ?_
   exact q_rm
  ·replace hm := qA b11 hm
   refine q_sk ?_
   refine q_sq ?_
   refine q_jn (ι := Bool) (fun p => TH a1 a2 v3 p) (fun p => zC a1 a2 v3 p = some r) ?_ ?_
   ·rintro x20 hm
    show H _ (TH a1 a2 v3 x20) _ _
    refine q_cn x20 (fun b21 => ?_) (fun b21 => ?_)
    ·replace hm := qB b21 hm
     refine q_sq ?_
     obtain ⟨v22, h23, hm⟩ := qC hm
     refine q_vn [qc 0 [] 4 (LV v22 h23)] 4 ⟨[(4, vb v22)], []⟩ ?_
     obtain rfl := Option.some.inj hm
     refine q_rt ?_
     exact q_rm
    ·replace hm := qA b21 hm
     refine q_sk ?_
     refine q_jn (ι := Bool) (fun p => RL p) (fun p => yP p = some r) ?_ ?_
     ·rintro x30 hm
      show H _ (RL x30) _ _
      obtain rfl := Option.some.inj hm
      refine q_rt ?_
      exact q_rm
     ·obtain ⟨v24, h25, hm⟩ := qC hm
      rcases Bool.eq_false_or_eq_true v24 with b26 | b26
      ·replace hm := qB b26 hm
       rcases Bool.eq_false_or_eq_true (v3.1.Log == (w64 (a1.Log + a2.Log))) with b27 | b27
       ·replace hm := qB b27 hm
        obtain ⟨v28, h29, hm⟩ := qC hm
        refine q_vn [qc 1 [60] 4 (qX v3.1 v24 h25), qf 2 b26, qf 12 b27, qk 13 [72] 4 ⟨[(72, vb true)], []⟩ (LV v28 h29)] 4 ⟨[(4, vb v28)], []⟩ ?_
        exact q_J (v28) hm
       ·replace hm := qA b27 hm
        refine q_vn [qc 1 [60] 4 (qX v3.1 v24 h25), qf 2 b26, qf 12 b27] 4 ⟨[(4, vb false)], []⟩ ?_
        exact q_J (false) hm
      ·replace hm := qA b26 hm
       refine q_vn [qc 1 [60] 4 (qX v3.1 v24 h25), qf 2 b26] 4 ⟨[(4, vb false)], []⟩ ?_
       exact q_J (false) hm
   ·rcases Bool.eq_false_or_eq_true (v3.2 != 0) with b12 | b12
    ·replace hm := qB b12 hm
     refine q_vu [qf 2 b12] 4 [6, 36] [(58, vb true)] [] [] ?_
     exact q_J (true) hm
    ·replace hm := qA b12 hm
     obtain ⟨v13, h14, hm⟩ := qC hm
     rcases Bool.eq_false_or_eq_true (!v13) with b15 | b15
     ·replace hm := qB b15 hm
      refine q_vu [qf 2 b12, qk 4 [39, 40] 4 ⟨[(39, vb false), (40, va (qL a1))], []⟩ (qX a1 v13 h14), qf 7 b15] 4 [6, 36] [(58, vb true)] [] [] ?_
      exact q_J (true) hm
     ·replace hm := qA b15 hm
      obtain ⟨v16, h17, hm⟩ := qC hm
      rcases Bool.eq_false_or_eq_true (!v16) with b18 | b18
      ·replace hm := qB b18 hm
       refine q_vu [qf 2 b12, qk 4 [39, 40] 4 ⟨[(39, vb false), (40, va (qL a1))], []⟩ (qX a1 v13 h14), qf 7 b15, qk 9 [44, 45] 4 ⟨[(44, vb false), (45, va (qL a2))], []⟩ (qX a2 v16 h17), qf 12 b18] 4 [6, 36] [(58, vb true)] [] [] ?_
       exact q_J (true) hm
      ·replace hm := qA b18 hm
       rcases Bool.eq_false_or_eq_true (decide (a1.Log > 1152921504606846976)) with b19 | b19
       ·replace hm := qB b19 hm
        refine q_vu [qf 2 b12, qk 4 [39, 40] 4 ⟨[(39, vb false), (40, va (qL a1))], []⟩ (qX a1 v13 h14), qf 7 b15, qk 9 [44, 45] 4 ⟨[(44, vb false), (45, va (qL a2))], []⟩ (qX a2 v16 h17), qf 12 b18, qf 17 b19] 4 [6, 36] [(58, vb true)] [] [] ?_
        exact q_J (true) hm
       ·replace hm := qA b19 hm
        refine q_vu [qf 2 b12, qk 4 [39, 40] 4 ⟨[(39, vb false), (40, va (qL a1))], []⟩ (qX a1 v13 h14), qf 7 b15, qk 9 [44, 45] 4 ⟨[(44, vb false), (45, va (qL a2))], []⟩ (qX a2 v16 h17), qf 12 b18, qf 17 b19] 4 [6, 36] [(58, vb (decide (a2.Log > 1152921504606846976)))] [] [] ?_
        exact q_J (decide (a2.Log > 1152921504606846976)) hm
 ·rcases Bool.eq_false_or_eq_true (!((v3.1.Log == v5.1.Log) && ((v3.1.Boards == v5.1.Boards) && ((v3.1.Chips == v5.1.Chips) && ((v3.1.Dust == v5.1.Dust) && ((v3.1.Value == v5.1.Value) && true)))))) with b7 | b7
  ·replace hm := qB b7 hm
   refine q_vu [qf 3 b7] 4 [7, 8] [(36, vb true)] [3] [] ?_
   exact q_J (true) hm
  ·replace hm := qA b7 hm
   rcases Bool.eq_false_or_eq_true (v3.2 != v5.2) with b8 | b8
   ·replace hm := qB b8 hm
    refine q_vu [qf 3 b7, qf 8 b8] 4 [7, 8] [(36, vb true)] [3] [] ?_
    exact q_J (true) hm
   ·replace hm := qA b8 hm
    rcases Bool.eq_false_or_eq_true (v3.2 != 0) with b9 | b9
    ·replace hm := qB b9 hm
     refine q_vu [qf 3 b7, qf 8 b8, qf 11 b9] 4 [7, 8] [(36, vb (v3.2 != 9))] [3] [] ?_
     exact q_J (v3.2 != 9) hm
    ·replace hm := qA b9 hm
     refine q_vu [qf 3 b7, qf 8 b8, qf 11 b9] 4 [7, 8] [(36, vb false)] [3] [] ?_
     exact q_J (false) hm
end Saw
end Go.SL
