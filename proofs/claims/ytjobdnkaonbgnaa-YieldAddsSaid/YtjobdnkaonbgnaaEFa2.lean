import Derived.Test.YtjobdnkaonbgnaaEBase
import Derived.Test.YtjobdnkaonbgnaaEFa1
set_option linter.unusedVariables false
set_option linter.unusedSimpArgs false
namespace Go.SL
namespace Saw
open Go.Proofs
set_option maxHeartbeats 4000000
set_option maxRecDepth 100000
def OI (r : Int × Int) : V := .tup [.one (.val (.int .u64 r.1)), .one (.val (.int .u64 r.2))]
def OD (r : Int × Int) : List (Nat × (Nat × O)) := []
def UO (a1 : Int) (a2 : Int) (a3 : Int) (v8 : Int) (x13 : Int) (x14 : Int) (x16 : Bool) : St :=
 ⟨[(2, vc (.val (.int .u64 (shlI .u64 a3 (IntKind.u64.wrap (v8)))))), (8, vc (.val (.int .u64 (IntKind.u64.wrap (v8))))), (9, vc (.val (.int .u64 (shrI .u64 (shlI .u64 a3 (IntKind.u64.wrap (v8))) 32)))), (10, vc (.val (.int .u64 (andI .u64 (shlI .u64 a3 (IntKind.u64.wrap (v8))) 4294967295)))), (11, vc (.val (.int .u64 (orI .u64 (shlI .u64 a1 (IntKind.u64.wrap (v8))) (shrI .u64 a2 (IntKind.u64.wrap (64 - (IntKind.u64.wrap (v8))))))))), (13, vc (.val (.int .u64 (shrI .u64 (shlI .u64 a2 (IntKind.u64.wrap (v8))) 32)))), (14, vc (.val (.int .u64 (andI .u64 (shlI .u64 a2 (IntKind.u64.wrap (v8))) 4294967295)))), (15, vc (.val (.int .u64 x13))), (16, vc (.val (.int .u64 x14))), (78, vb x16)], []⟩
def WO (a1 : Int) (a2 : Int) (a3 : Int) (v8 : Int) (x13 : Int) (x14 : Int) : St :=
 ⟨[(2, vc (.val (.int .u64 (shlI .u64 a3 (IntKind.u64.wrap (v8)))))), (8, vc (.val (.int .u64 (IntKind.u64.wrap (v8))))), (9, vc (.val (.int .u64 (shrI .u64 (shlI .u64 a3 (IntKind.u64.wrap (v8))) 32)))), (10, vc (.val (.int .u64 (andI .u64 (shlI .u64 a3 (IntKind.u64.wrap (v8))) 4294967295)))), (11, vc (.val (.int .u64 (orI .u64 (shlI .u64 a1 (IntKind.u64.wrap (v8))) (shrI .u64 a2 (IntKind.u64.wrap (64 - (IntKind.u64.wrap (v8))))))))), (13, vc (.val (.int .u64 (shrI .u64 (shlI .u64 a2 (IntKind.u64.wrap (v8))) 32)))), (14, vc (.val (.int .u64 (andI .u64 (shlI .u64 a2 (IntKind.u64.wrap (v8))) 4294967295)))), (15, vc (.val (.int .u64 x13))), (16, vc (.val (.int .u64 x14)))], []⟩
def RY (a1 : Int) (a2 : Int) (a3 : Int) (v8 : Int) (x19 : Int) : St :=
 ⟨[(2, vc (.val (.int .u64 (shlI .u64 a3 (IntKind.u64.wrap (v8)))))), (8, vc (.val (.int .u64 (IntKind.u64.wrap (v8))))), (9, vc (.val (.int .u64 (shrI .u64 (shlI .u64 a3 (IntKind.u64.wrap (v8))) 32)))), (10, vc (.val (.int .u64 (andI .u64 (shlI .u64 a3 (IntKind.u64.wrap (v8))) 4294967295)))), (11, vc (.val (.int .u64 (orI .u64 (shlI .u64 a1 (IntKind.u64.wrap (v8))) (shrI .u64 a2 (IntKind.u64.wrap (64 - (IntKind.u64.wrap (v8))))))))), (13, vc (.val (.int .u64 (shrI .u64 (shlI .u64 a2 (IntKind.u64.wrap (v8))) 32)))), (14, vc (.val (.int .u64 (andI .u64 (shlI .u64 a2 (IntKind.u64.wrap (v8))) 4294967295)))), (15, vc (.val (.int .u64 x19)))], []⟩
def UJ (a1 : Int) (a2 : Int) (a3 : Int) (v8 : Int) (o20 : Int) (x22 : Int) (x23 : Int) (x25 : Bool) : St :=
 ⟨[(2, vc (.val (.int .u64 (shlI .u64 a3 (IntKind.u64.wrap (v8)))))), (8, vc (.val (.int .u64 (IntKind.u64.wrap (v8))))), (9, vc (.val (.int .u64 (shrI .u64 (shlI .u64 a3 (IntKind.u64.wrap (v8))) 32)))), (10, vc (.val (.int .u64 (andI .u64 (shlI .u64 a3 (IntKind.u64.wrap (v8))) 4294967295)))), (14, vc (.val (.int .u64 (andI .u64 (shlI .u64 a2 (IntKind.u64.wrap (v8))) 4294967295)))), (15, vc (.val (.int .u64 o20))), (16, vc (.val (.int .u64 x22))), (17, vc (.val (.int .u64 (IntKind.u64.wrap ((IntKind.u64.wrap ((IntKind.u64.wrap ((orI .u64 (shlI .u64 a1 (IntKind.u64.wrap (v8))) (shrI .u64 a2 (IntKind.u64.wrap (64 - (IntKind.u64.wrap (v8)))))) * 4294967296)) + (shrI .u64 (shlI .u64 a2 (IntKind.u64.wrap (v8))) 32))) - (IntKind.u64.wrap (o20 * (shlI .u64 a3 (IntKind.u64.wrap (v8)))))))))), (18, vc (.val (.int .u64 x23))), (113, vb x25)], []⟩
def WP (a1 : Int) (a2 : Int) (a3 : Int) (v8 : Int) (o20 : Int) (x22 : Int) (x23 : Int) : St :=
 ⟨[(2, vc (.val (.int .u64 (shlI .u64 a3 (IntKind.u64.wrap (v8)))))), (8, vc (.val (.int .u64 (IntKind.u64.wrap (v8))))), (9, vc (.val (.int .u64 (shrI .u64 (shlI .u64 a3 (IntKind.u64.wrap (v8))) 32)))), (10, vc (.val (.int .u64 (andI .u64 (shlI .u64 a3 (IntKind.u64.wrap (v8))) 4294967295)))), (14, vc (.val (.int .u64 (andI .u64 (shlI .u64 a2 (IntKind.u64.wrap (v8))) 4294967295)))), (15, vc (.val (.int .u64 o20))), (16, vc (.val (.int .u64 x22))), (17, vc (.val (.int .u64 (IntKind.u64.wrap ((IntKind.u64.wrap ((IntKind.u64.wrap ((orI .u64 (shlI .u64 a1 (IntKind.u64.wrap (v8))) (shrI .u64 a2 (IntKind.u64.wrap (64 - (IntKind.u64.wrap (v8)))))) * 4294967296)) + (shrI .u64 (shlI .u64 a2 (IntKind.u64.wrap (v8))) 32))) - (IntKind.u64.wrap (o20 * (shlI .u64 a3 (IntKind.u64.wrap (v8)))))))))), (18, vc (.val (.int .u64 x23)))], []⟩
def TX (a1 : Int) (a2 : Int) (a3 : Int) (v8 : Int) (o20 : Int) (x28 : Int) : St :=
 ⟨[(2, vc (.val (.int .u64 (shlI .u64 a3 (IntKind.u64.wrap (v8)))))), (8, vc (.val (.int .u64 (IntKind.u64.wrap (v8))))), (14, vc (.val (.int .u64 (andI .u64 (shlI .u64 a2 (IntKind.u64.wrap (v8))) 4294967295)))), (15, vc (.val (.int .u64 o20))), (17, vc (.val (.int .u64 (IntKind.u64.wrap ((IntKind.u64.wrap ((IntKind.u64.wrap ((orI .u64 (shlI .u64 a1 (IntKind.u64.wrap (v8))) (shrI .u64 a2 (IntKind.u64.wrap (64 - (IntKind.u64.wrap (v8)))))) * 4294967296)) + (shrI .u64 (shlI .u64 a2 (IntKind.u64.wrap (v8))) 32))) - (IntKind.u64.wrap (o20 * (shlI .u64 a3 (IntKind.u64.wrap (v8)))))))))), (18, vc (.val (.int .u64 x28)))], []⟩
theorem HA (E : Env 0) (a1 : Int) (a2 : Int) (a3 : Int) (v8 : Int) : ∀ (n : Nat) (x13 : Int) (x14 : Int) (res : Int), zL a2 a3 v8 n x13 x14 = some res → HL (kx E 135 0) (nd Try.f47 262136) (wK 0 (fun o => RY a1 a2 a3 v8 o) res) n (WO a1 a2 a3 v8 x13 x14) := by
 intro n
 induction n with
 | zero =>
  intro x13 x14 res hm
  cases hm
 | succ n ih =>
  intro x13 x14 res hm
  refine qV ?_
  refine q_sq ?_
  refine q_jn (ι := Bool) (fun p => UO a1 a2 a3 v8 x13 x14 p) (fun p => yZ a3 v8 x13 x14 (zL a2 a3 v8 n) p = some res) ?_ ?_
  ·rintro x16 hm
   show H _ (UO a1 a2 a3 v8 x13 x14 x16) _ _
   refine q_cn x16 (fun b17 => ?_) (fun b17 => ?_)
   ·replace hm := qA b17 hm
    refine q_sk ?_
    refine q_bk 1 ?_
    refine q_sq ?_
    refine q_vu [] 0 [15, 78] [(15, vc (.val (.int .u64 (IntKind.u64.wrap (x13 - 1)))))] [] [] ?_
    refine q_sq ?_
    refine q_vu [] 0 [16] [(16, vc (.val (.int .u64 (IntKind.u64.wrap (x14 + (shrI .u64 (shlI .u64 a3 (IntKind.u64.wrap (v8))) 32))))))] [] [] ?_
    refine q_sq ?_
    refine q_vu [] 0 [] [(85, vb (decide ((IntKind.u64.wrap (x14 + (shrI .u64 (shlI .u64 a3 (IntKind.u64.wrap (v8))) 32))) ≥ 4294967296)))] [] [] ?_
    refine q_cn (decide ((IntKind.u64.wrap (x14 + (shrI .u64 (shlI .u64 a3 (IntKind.u64.wrap (v8))) 32))) ≥ 4294967296)) (fun b18 => ?_) (fun b18 => ?_)
    ·replace hm := qA b18 hm
     refine q_ex 0 ?_
     obtain rfl := Option.some.inj hm
     exact jR (by kernel_rfl) (by kernel_rfl)
    ·replace hm := qB b18 hm
     refine q_sk ?_
     exact q_hl (WO a1 a2 a3 v8 (IntKind.u64.wrap (x13 - 1)) (IntKind.u64.wrap (x14 + (shrI .u64 (shlI .u64 a3 (IntKind.u64.wrap (v8))) 32)))) (ih (IntKind.u64.wrap (x13 - 1)) (IntKind.u64.wrap (x14 + (shrI .u64 (shlI .u64 a3 (IntKind.u64.wrap (v8))) 32))) _ hm)
   ·replace hm := qB b17 hm
    refine q_ex 0 ?_
    obtain rfl := Option.some.inj hm
    exact jR (by kernel_rfl) (by kernel_rfl)
  ·rcases Bool.eq_false_or_eq_true (decide (x13 ≥ 4294967296)) with b15 | b15
   ·replace hm := qA b15 hm
    refine q_vu [qf 2 b15] 0 [] [(78, vb true)] [] [] ?_
    exact q_J (true) hm
   ·replace hm := qB b15 hm
    refine q_vu [qf 2 b15] 0 [] [(78, vb (decide ((IntKind.u64.wrap (x13 * (andI .u64 (shlI .u64 a3 (IntKind.u64.wrap (v8))) 4294967295))) > (IntKind.u64.wrap ((IntKind.u64.wrap (4294967296 * x14)) + (shrI .u64 (shlI .u64 a2 (IntKind.u64.wrap (v8))) 32))))))] [] [] ?_
    exact q_J (decide ((IntKind.u64.wrap (x13 * (andI .u64 (shlI .u64 a3 (IntKind.u64.wrap (v8))) 4294967295))) > (IntKind.u64.wrap ((IntKind.u64.wrap (4294967296 * x14)) + (shrI .u64 (shlI .u64 a2 (IntKind.u64.wrap (v8))) 32))))) hm
theorem MX (E : Env 0) (a1 : Int) (a2 : Int) (a3 : Int) (v8 : Int) (o20 : Int) : ∀ (n : Nat) (x22 : Int) (x23 : Int) (res : Int), zM a2 a3 v8 n x22 x23 = some res → HL (kx E 135 0) (nd Try.f47 4194296) (wK 2 (fun o => TX a1 a2 a3 v8 o20 o) res) n (WP a1 a2 a3 v8 o20 x22 x23) := by
 intro n
 induction n with
 | zero =>
  intro x22 x23 res hm
  cases hm
 | succ n ih =>
  intro x22 x23 res hm
  refine qV ?_
  refine q_sq ?_
  refine q_jn (ι := Bool) (fun p => UJ a1 a2 a3 v8 o20 x22 x23 p) (fun p => QG a3 v8 x22 x23 (zM a2 a3 v8 n) p = some res) ?_ ?_
  ·rintro x25 hm
   show H _ (UJ a1 a2 a3 v8 o20 x22 x23 x25) _ _
   refine q_cn x25 (fun b26 => ?_) (fun b26 => ?_)
   ·replace hm := qA b26 hm
    refine q_sk ?_
    refine q_bk 3 ?_
    refine q_sq ?_
    refine q_vu [] 0 [18, 113] [(18, vc (.val (.int .u64 (IntKind.u64.wrap (x23 - 1)))))] [] [] ?_
    refine q_sq ?_
    refine q_vu [] 0 [16] [(16, vc (.val (.int .u64 (IntKind.u64.wrap (x22 + (shrI .u64 (shlI .u64 a3 (IntKind.u64.wrap (v8))) 32))))))] [] [] ?_
    refine q_sq ?_
    refine q_vu [] 0 [] [(120, vb (decide ((IntKind.u64.wrap (x22 + (shrI .u64 (shlI .u64 a3 (IntKind.u64.wrap (v8))) 32))) ≥ 4294967296)))] [] [] ?_
    refine q_cn (decide ((IntKind.u64.wrap (x22 + (shrI .u64 (shlI .u64 a3 (IntKind.u64.wrap (v8))) 32))) ≥ 4294967296)) (fun b27 => ?_) (fun b27 => ?_)
    ·replace hm := qA b27 hm
     refine q_ex 2 ?_
     obtain rfl := Option.some.inj hm
     exact jR (by kernel_rfl) (by kernel_rfl)
    ·replace hm := qB b27 hm
     refine q_sk ?_
     exact q_hl (WP a1 a2 a3 v8 o20 (IntKind.u64.wrap (x22 + (shrI .u64 (shlI .u64 a3 (IntKind.u64.wrap (v8))) 32))) (IntKind.u64.wrap (x23 - 1))) (ih (IntKind.u64.wrap (x22 + (shrI .u64 (shlI .u64 a3 (IntKind.u64.wrap (v8))) 32))) (IntKind.u64.wrap (x23 - 1)) _ hm)
   ·replace hm := qB b26 hm
    refine q_ex 2 ?_
    obtain rfl := Option.some.inj hm
    exact jR (by kernel_rfl) (by kernel_rfl)
  ·rcases Bool.eq_false_or_eq_true (decide (x23 ≥ 4294967296)) with b24 | b24
   ·replace hm := qA b24 hm
    refine q_vu [qf 2 b24] 0 [] [(113, vb true)] [] [] ?_
    exact q_J (true) hm
   ·replace hm := qB b24 hm
    refine q_vu [qf 2 b24] 0 [] [(113, vb (decide ((IntKind.u64.wrap (x23 * (andI .u64 (shlI .u64 a3 (IntKind.u64.wrap (v8))) 4294967295))) > (IntKind.u64.wrap ((IntKind.u64.wrap (4294967296 * x22)) + (andI .u64 (shlI .u64 a2 (IntKind.u64.wrap (v8))) 4294967295))))))] [] [] ?_
    exact q_J (decide ((IntKind.u64.wrap (x23 * (andI .u64 (shlI .u64 a3 (IntKind.u64.wrap (v8))) 4294967295))) > (IntKind.u64.wrap ((IntKind.u64.wrap (4294967296 * x22)) + (andI .u64 (shlI .u64 a2 (IntKind.u64.wrap (v8))) 4294967295))))) hm
theorem IB (a1 : Int) (a2 : Int) (a3 : Int) (r : Int × Int) (hm : QA a1 a2 a3 = some r) : CtX Try.prog globs 47 0 0 [.one (.val (.int .u64 a1)), .one (.val (.int .u64 a2)), .one (.val (.int .u64 a3))] [] (OI r) (OD r) := by
 unfold QA at hm
 refine q_E Try.f47 135 fun E => ?_
 refine q_sq ?_
 refine q_vn [] 0 ⟨[(0, vc (.val (.int .u64 a1))), (1, vc (.val (.int .u64 a2))), (2, vc (.val (.int .u64 a3)))], []⟩ ?_
 refine q_sq ?_
 refine q_sq ?_
 refine q_vu [] 0 [] [(20, vb (a3 == 0))] [] [] ?_
 refine q_cn (a3 == 0) (fun b4 => ?_) (fun b4 => ?_)
 ·replace hm := qA b4 hm
  cases hm
 ·replace hm := qB b4 hm
  refine q_sk ?_
  refine q_sq ?_
  refine q_sq ?_
  refine q_vu [] 0 [20] [(24, vb (decide (a3 ≤ a1)))] [] [] ?_
  refine q_cn (decide (a3 ≤ a1)) (fun b5 => ?_) (fun b5 => ?_)
  ·replace hm := qA b5 hm
   cases hm
  ·replace hm := qB b5 hm
   refine q_sk ?_
   refine q_sq ?_
   refine q_sq ?_
   refine q_vu [] 0 [24] [(27, vb (a1 == 0))] [] [] ?_
   refine q_cn (a1 == 0) (fun b6 => ?_) (fun b6 => ?_)
   ·replace hm := qA b6 hm
    refine q_sq ?_
    obtain ⟨g7, hm⟩ := qO hm
    refine q_dn [qd 2 (Dir.none) (SS g7), qd 5 (Dir.none) (SS g7)] [0, 0, 3, 0, 0, 24, 7, 127] 0 ⟨[(6, vc (.val (.int .u64 (IntKind.u64.wrap (Int.tdiv a2 a3))))), (7, vc (.val (.int .u64 (Int.tmod a2 a3))))], []⟩ ?_
    obtain rfl := Option.some.inj hm
    refine q_rt ?_
    exact q_rm
   ·replace hm := qB b6 hm
    refine q_sk ?_
    refine q_sq ?_
    obtain ⟨v8, h9, hm⟩ := qC hm
    refine q_vu [qc 1 [34] 0 (DG a3 v8 h9)] 0 [27] [(8, vc (.val (.int .u64 (IntKind.u64.wrap (v8)))))] [] [] ?_
    refine q_sq ?_
    obtain ⟨g10, hm⟩ := qO hm
    refine q_vu [qd 2 (Dir.none) (HT g10)] 0 [2] [(2, vc (.val (.int .u64 (shlI .u64 a3 (IntKind.u64.wrap (v8))))))] [] [] ?_
    refine q_sq ?_
    refine q_vu [qd 1 (Dir.none) (show ¬ (32 : Int) < 0 by decide)] 0 [] [(9, vc (.val (.int .u64 (shrI .u64 (shlI .u64 a3 (IntKind.u64.wrap (v8))) 32))))] [] [] ?_
    refine q_sq ?_
    refine q_vu [] 0 [] [(10, vc (.val (.int .u64 (andI .u64 (shlI .u64 a3 (IntKind.u64.wrap (v8))) 4294967295))))] [] [] ?_
    refine q_sq ?_
    obtain ⟨g11, hm⟩ := qO hm
    refine q_vu [qd 2 (Dir.none) (HT g10), qd 6 (Dir.none) (HT g11)] 0 [0] [(11, vc (.val (.int .u64 (orI .u64 (shlI .u64 a1 (IntKind.u64.wrap (v8))) (shrI .u64 a2 (IntKind.u64.wrap (64 - (IntKind.u64.wrap (v8)))))))))] [] [] ?_
    refine q_sq ?_
    refine q_vu [qd 2 (Dir.none) (HT g10)] 0 [1] [(12, vc (.val (.int .u64 (shlI .u64 a2 (IntKind.u64.wrap (v8))))))] [] [] ?_
    refine q_sq ?_
    refine q_vu [qd 1 (Dir.none) (show ¬ (32 : Int) < 0 by decide)] 0 [] [(13, vc (.val (.int .u64 (shrI .u64 (shlI .u64 a2 (IntKind.u64.wrap (v8))) 32))))] [] [] ?_
    refine q_sq ?_
    refine q_vu [] 0 [12] [(14, vc (.val (.int .u64 (andI .u64 (shlI .u64 a2 (IntKind.u64.wrap (v8))) 4294967295))))] [] [] ?_
    refine q_sq ?_
    obtain ⟨g12, hm⟩ := qO hm
    refine q_vu [qd 2 (Dir.none) (SS g12)] 0 [] [(15, vc (.val (.int .u64 (IntKind.u64.wrap (Int.tdiv (orI .u64 (shlI .u64 a1 (IntKind.u64.wrap (v8))) (shrI .u64 a2 (IntKind.u64.wrap (64 - (IntKind.u64.wrap (v8)))))) (shrI .u64 (shlI .u64 a3 (IntKind.u64.wrap (v8))) 32))))))] [] [] ?_
    refine q_sq ?_
    refine q_vu [] 0 [] [(16, vc (.val (.int .u64 (IntKind.u64.wrap ((orI .u64 (shlI .u64 a1 (IntKind.u64.wrap (v8))) (shrI .u64 a2 (IntKind.u64.wrap (64 - (IntKind.u64.wrap (v8)))))) - (IntKind.u64.wrap ((IntKind.u64.wrap (Int.tdiv (orI .u64 (shlI .u64 a1 (IntKind.u64.wrap (v8))) (shrI .u64 a2 (IntKind.u64.wrap (64 - (IntKind.u64.wrap (v8)))))) (shrI .u64 (shlI .u64 a3 (IntKind.u64.wrap (v8))) 32))) * (shrI .u64 (shlI .u64 a3 (IntKind.u64.wrap (v8))) 32))))))))] [] [] ?_
    refine q_sq ?_
    obtain ⟨o20, h21, hm⟩ := qC hm
    refine zY (nd Try.f47 262136) 0 (by kernel_rfl) FUEL (fun o => RY a1 a2 a3 v8 o) o20 (q_hl (WO a1 a2 a3 v8 (IntKind.u64.wrap (Int.tdiv (orI .u64 (shlI .u64 a1 (IntKind.u64.wrap (v8))) (shrI .u64 a2 (IntKind.u64.wrap (64 - (IntKind.u64.wrap (v8)))))) (shrI .u64 (shlI .u64 a3 (IntKind.u64.wrap (v8))) 32))) (IntKind.u64.wrap ((orI .u64 (shlI .u64 a1 (IntKind.u64.wrap (v8))) (shrI .u64 a2 (IntKind.u64.wrap (64 - (IntKind.u64.wrap (v8)))))) - (IntKind.u64.wrap ((IntKind.u64.wrap (Int.tdiv (orI .u64 (shlI .u64 a1 (IntKind.u64.wrap (v8))) (shrI .u64 a2 (IntKind.u64.wrap (64 - (IntKind.u64.wrap (v8)))))) (shrI .u64 (shlI .u64 a3 (IntKind.u64.wrap (v8))) 32))) * (shrI .u64 (shlI .u64 a3 (IntKind.u64.wrap (v8))) 32)))))) (HA E a1 a2 a3 v8 FUEL (IntKind.u64.wrap (Int.tdiv (orI .u64 (shlI .u64 a1 (IntKind.u64.wrap (v8))) (shrI .u64 a2 (IntKind.u64.wrap (64 - (IntKind.u64.wrap (v8)))))) (shrI .u64 (shlI .u64 a3 (IntKind.u64.wrap (v8))) 32))) (IntKind.u64.wrap ((orI .u64 (shlI .u64 a1 (IntKind.u64.wrap (v8))) (shrI .u64 a2 (IntKind.u64.wrap (64 - (IntKind.u64.wrap (v8)))))) - (IntKind.u64.wrap ((IntKind.u64.wrap (Int.tdiv (orI .u64 (shlI .u64 a1 (IntKind.u64.wrap (v8))) (shrI .u64 a2 (IntKind.u64.wrap (64 - (IntKind.u64.wrap (v8)))))) (shrI .u64 (shlI .u64 a3 (IntKind.u64.wrap (v8))) 32))) * (shrI .u64 (shlI .u64 a3 (IntKind.u64.wrap (v8))) 32))))) o20 h21)) ?_
    refine q_sq ?_
    refine q_vu [] 0 [11, 13] [(17, vc (.val (.int .u64 (IntKind.u64.wrap ((IntKind.u64.wrap ((IntKind.u64.wrap ((orI .u64 (shlI .u64 a1 (IntKind.u64.wrap (v8))) (shrI .u64 a2 (IntKind.u64.wrap (64 - (IntKind.u64.wrap (v8)))))) * 4294967296)) + (shrI .u64 (shlI .u64 a2 (IntKind.u64.wrap (v8))) 32))) - (IntKind.u64.wrap (o20 * (shlI .u64 a3 (IntKind.u64.wrap (v8))))))))))] [] [] ?_
    refine q_sq ?_
    refine q_vu [qd 2 (Dir.none) (SS g12)] 0 [] [(18, vc (.val (.int .u64 (IntKind.u64.wrap (Int.tdiv (IntKind.u64.wrap ((IntKind.u64.wrap ((IntKind.u64.wrap ((orI .u64 (shlI .u64 a1 (IntKind.u64.wrap (v8))) (shrI .u64 a2 (IntKind.u64.wrap (64 - (IntKind.u64.wrap (v8)))))) * 4294967296)) + (shrI .u64 (shlI .u64 a2 (IntKind.u64.wrap (v8))) 32))) - (IntKind.u64.wrap (o20 * (shlI .u64 a3 (IntKind.u64.wrap (v8))))))) (shrI .u64 (shlI .u64 a3 (IntKind.u64.wrap (v8))) 32))))))] [] [] ?_
    refine q_sq ?_
    refine q_vu [] 0 [] [(16, vc (.val (.int .u64 (IntKind.u64.wrap ((IntKind.u64.wrap ((IntKind.u64.wrap ((IntKind.u64.wrap ((orI .u64 (shlI .u64 a1 (IntKind.u64.wrap (v8))) (shrI .u64 a2 (IntKind.u64.wrap (64 - (IntKind.u64.wrap (v8)))))) * 4294967296)) + (shrI .u64 (shlI .u64 a2 (IntKind.u64.wrap (v8))) 32))) - (IntKind.u64.wrap (o20 * (shlI .u64 a3 (IntKind.u64.wrap (v8))))))) - (IntKind.u64.wrap ((IntKind.u64.wrap (Int.tdiv (IntKind.u64.wrap ((IntKind.u64.wrap ((IntKind.u64.wrap ((orI .u64 (shlI .u64 a1 (IntKind.u64.wrap (v8))) (shrI .u64 a2 (IntKind.u64.wrap (64 - (IntKind.u64.wrap (v8)))))) * 4294967296)) + (shrI .u64 (shlI .u64 a2 (IntKind.u64.wrap (v8))) 32))) - (IntKind.u64.wrap (o20 * (shlI .u64 a3 (IntKind.u64.wrap (v8))))))) (shrI .u64 (shlI .u64 a3 (IntKind.u64.wrap (v8))) 32))) * (shrI .u64 (shlI .u64 a3 (IntKind.u64.wrap (v8))) 32))))))))] [] [] ?_
    refine q_sq ?_
    obtain ⟨o29, h30, hm⟩ := qC hm
    refine zY (nd Try.f47 4194296) 2 (by kernel_rfl) FUEL (fun o => TX a1 a2 a3 v8 o20 o) o29 (q_hl (WP a1 a2 a3 v8 o20 (IntKind.u64.wrap ((IntKind.u64.wrap ((IntKind.u64.wrap ((IntKind.u64.wrap ((orI .u64 (shlI .u64 a1 (IntKind.u64.wrap (v8))) (shrI .u64 a2 (IntKind.u64.wrap (64 - (IntKind.u64.wrap (v8)))))) * 4294967296)) + (shrI .u64 (shlI .u64 a2 (IntKind.u64.wrap (v8))) 32))) - (IntKind.u64.wrap (o20 * (shlI .u64 a3 (IntKind.u64.wrap (v8))))))) - (IntKind.u64.wrap ((IntKind.u64.wrap (Int.tdiv (IntKind.u64.wrap ((IntKind.u64.wrap ((IntKind.u64.wrap ((orI .u64 (shlI .u64 a1 (IntKind.u64.wrap (v8))) (shrI .u64 a2 (IntKind.u64.wrap (64 - (IntKind.u64.wrap (v8)))))) * 4294967296)) + (shrI .u64 (shlI .u64 a2 (IntKind.u64.wrap (v8))) 32))) - (IntKind.u64.wrap (o20 * (shlI .u64 a3 (IntKind.u64.wrap (v8))))))) (shrI .u64 (shlI .u64 a3 (IntKind.u64.wrap (v8))) 32))) * (shrI .u64 (shlI .u64 a3 (IntKind.u64.wrap (v8))) 32))))) (IntKind.u64.wrap (Int.tdiv (IntKind.u64.wrap ((IntKind.u64.wrap ((IntKind.u64.wrap ((orI .u64 (shlI .u64 a1 (IntKind.u64.wrap (v8))) (shrI .u64 a2 (IntKind.u64.wrap (64 - (IntKind.u64.wrap (v8)))))) * 4294967296)) + (shrI .u64 (shlI .u64 a2 (IntKind.u64.wrap (v8))) 32))) - (IntKind.u64.wrap (o20 * (shlI .u64 a3 (IntKind.u64.wrap (v8))))))) (shrI .u64 (shlI .u64 a3 (IntKind.u64.wrap (v8))) 32)))) (MX E a1 a2 a3 v8 o20 FUEL (IntKind.u64.wrap ((IntKind.u64.wrap ((IntKind.u64.wrap ((IntKind.u64.wrap ((orI .u64 (shlI .u64 a1 (IntKind.u64.wrap (v8))) (shrI .u64 a2 (IntKind.u64.wrap (64 - (IntKind.u64.wrap (v8)))))) * 4294967296)) + (shrI .u64 (shlI .u64 a2 (IntKind.u64.wrap (v8))) 32))) - (IntKind.u64.wrap (o20 * (shlI .u64 a3 (IntKind.u64.wrap (v8))))))) - (IntKind.u64.wrap ((IntKind.u64.wrap (Int.tdiv (IntKind.u64.wrap ((IntKind.u64.wrap ((IntKind.u64.wrap ((orI .u64 (shlI .u64 a1 (IntKind.u64.wrap (v8))) (shrI .u64 a2 (IntKind.u64.wrap (64 - (IntKind.u64.wrap (v8)))))) * 4294967296)) + (shrI .u64 (shlI .u64 a2 (IntKind.u64.wrap (v8))) 32))) - (IntKind.u64.wrap (o20 * (shlI .u64 a3 (IntKind.u64.wrap (v8))))))) (shrI .u64 (shlI .u64 a3 (IntKind.u64.wrap (v8))) 32))) * (shrI .u64 (shlI .u64 a3 (IntKind.u64.wrap (v8))) 32))))) (IntKind.u64.wrap (Int.tdiv (IntKind.u64.wrap ((IntKind.u64.wrap ((IntKind.u64.wrap ((orI .u64 (shlI .u64 a1 (IntKind.u64.wrap (v8))) (shrI .u64 a2 (IntKind.u64.wrap (64 - (IntKind.u64.wrap (v8)))))) * 4294967296)) + (shrI .u64 (shlI .u64 a2 (IntKind.u64.wrap (v8))) 32))) - (IntKind.u64.wrap (o20 * (shlI .u64 a3 (IntKind.u64.wrap (v8))))))) (shrI .u64 (shlI .u64 a3 (IntKind.u64.wrap (v8))) 32))) o29 h30)) ?_
    refine q_sq ?_
    refine q_vn [qd 13 (Dir.none) (HT g10)] 0 ⟨[(6, vc (.val (.int .u64 (IntKind.u64.wrap ((IntKind.u64.wrap (o20 * 4294967296)) + o29))))), (7, vc (.val (.int .u64 (shrI .u64 (IntKind.u64.wrap ((IntKind.u64.wrap ((IntKind.u64.wrap ((IntKind.u64.wrap ((IntKind.u64.wrap ((IntKind.u64.wrap ((orI .u64 (shlI .u64 a1 (IntKind.u64.wrap (v8))) (shrI .u64 a2 (IntKind.u64.wrap (64 - (IntKind.u64.wrap (v8)))))) * 4294967296)) + (shrI .u64 (shlI .u64 a2 (IntKind.u64.wrap (v8))) 32))) - (IntKind.u64.wrap (o20 * (shlI .u64 a3 (IntKind.u64.wrap (v8))))))) * 4294967296)) + (andI .u64 (shlI .u64 a2 (IntKind.u64.wrap (v8))) 4294967295))) - (IntKind.u64.wrap (o29 * (shlI .u64 a3 (IntKind.u64.wrap (v8))))))) (IntKind.u64.wrap (v8))))))], []⟩ ?_
    obtain rfl := Option.some.inj hm
    refine q_rt ?_
    exact q_rm
def qBo (r : Int × Int) : V := .tup [.one (ci r.1), .one (ci r.2)]
def qBZ (r : Int × Int) : List (Nat × (Nat × O)) := []
def BR (x21 : Int) : St :=
 ⟨[(10, vc (.val (.int .u64 x21)))], []⟩
def BO (v12 : Int × Int) (x18 : Bool) : St :=
 ⟨[(10, vc (.val (.int .u64 v12.1))), (11, vc (.val (.int .u64 v12.2))), (52, vb x18)], []⟩
theorem qAt (a1 : Int) (a2 : Int) (a3 : Int) (r : Int × Int) (hm : YV a1 a2 a3 = some r) : CtX Try.prog globs 28 0 0 [.one (ci a1), .one (ci a2), .one (ci a3)] [] (qBo r) (qBZ r) := by
 unfold YV at hm
 refine q_E Try.f28 60 fun E => ?_
 refine q_sq ?_
 refine q_vn [] 0 ⟨[(0, vi a1), (1, vi a2), (2, vi a3)], []⟩ ?_
 refine q_sq ?_
 refine q_sq ?_
 refine q_vu [] 0 [] [(13, vb (decide (a3 ≤ 0)))] [] [] ?_
 refine q_cn (decide (a3 ≤ 0)) (fun b4 => ?_) (fun b4 => ?_)
 ·replace hm := qA b4 hm
  refine q_sq ?_
  refine q_vn [] 0 ⟨[(6, vi 0), (7, vi 9)], []⟩ ?_
  obtain rfl := Option.some.inj hm
  refine q_rt ?_
  exact q_rm
 ·replace hm := qB b4 hm
  refine q_sk ?_
  refine q_sq ?_
  obtain ⟨v5, h6, hm⟩ := qC hm
  obtain ⟨v7, h8, hm⟩ := qC hm
  obtain ⟨v9, h10, hm⟩ := qC hm
  refine q_vu [qc 1 [15] 0 (GY a1 v5 h6), qc 3 [17] 0 (GY a2 v7 h8), qc 4 [16, 18] 0 (AD v5 v7 v9 h10)] 0 [13] [(8, vc (.val (.int .u64 v9.1))), (9, vc (.val (.int .u64 v9.2)))] [] [] ?_
  refine q_sq ?_
  refine q_sq ?_
  refine q_vu [] 0 [] [(25, vb (decide (v9.1 ≥ (IntKind.u64.wrap (a3)))))] [] [] ?_
  refine q_cn (decide (v9.1 ≥ (IntKind.u64.wrap (a3)))) (fun b11 => ?_) (fun b11 => ?_)
  ·replace hm := qA b11 hm
   refine q_sq ?_
   refine q_vn [] 0 ⟨[(6, vi 0), (7, vi 9)], []⟩ ?_
   obtain rfl := Option.some.inj hm
   refine q_rt ?_
   exact q_rm
  ·replace hm := qB b11 hm
   refine q_sk ?_
   refine q_sq ?_
   obtain ⟨v12, h13, hm⟩ := qC hm
   refine q_vu [qc 4 [27, 28, 30] 0 (IB v9.1 v9.2 (IntKind.u64.wrap (a3)) v12 h13)] 0 [2, 8, 9, 25] [(10, vc (.val (.int .u64 v12.1))), (11, vc (.val (.int .u64 v12.2)))] [] [] ?_
   refine q_sq ?_
   refine q_sq ?_
   refine q_vu [] 0 [0, 1] [(38, vb ((decide (a1 < 0)) == (decide (a2 < 0))))] [] [] ?_
   refine q_cn ((decide (a1 < 0)) == (decide (a2 < 0))) (fun b14 => ?_) (fun b14 => ?_)
   ·replace hm := qA b14 hm
    refine q_sq ?_
    refine q_sq ?_
    refine q_vu [] 0 [11, 38] [(40, vb (decide (v12.1 > 9223372036854775807)))] [] [] ?_
    refine q_cn (decide (v12.1 > 9223372036854775807)) (fun b15 => ?_) (fun b15 => ?_)
    ·replace hm := qA b15 hm
     refine q_sq ?_
     refine q_vn [] 0 ⟨[(6, vi 0), (7, vi 9)], []⟩ ?_
     obtain rfl := Option.some.inj hm
     refine q_rt ?_
     exact q_rm
    ·replace hm := qB b15 hm
     refine q_sk ?_
     refine q_sq ?_
     refine q_vn [] 0 ⟨[(6, vi (w64 (v12.1))), (7, vi 0)], []⟩ ?_
     obtain rfl := Option.some.inj hm
     refine q_rt ?_
     exact q_rm
   ·replace hm := qB b14 hm
    refine q_sk ?_
    refine q_sq ?_
    refine q_jn (ι := Bool) (fun p => BO v12 p) (fun p => YI v12 p = some r) ?_ ?_
    ·rintro x18 hm
     show H _ (BO v12 x18) _ _
     refine q_cn x18 (fun b19 => ?_) (fun b19 => ?_)
     ·replace hm := qA b19 hm
      refine q_sq ?_
      refine q_vn [] 0 ⟨[(6, vi 0), (7, vi 9)], []⟩ ?_
      obtain rfl := Option.some.inj hm
      refine q_rt ?_
      exact q_rm
     ·replace hm := qB b19 hm
      refine q_sk ?_
      refine q_jn (ι := Int) (fun p => BR p) (fun p => TV p = some r) ?_ ?_
      ·rintro x21 hm
       show H _ (BR x21) _ _
       refine q_sq ?_
       refine q_vn [] 0 ⟨[(6, vi (w64 (IntKind.u64.wrap (0 - x21)))), (7, vi 0)], []⟩ ?_
       obtain rfl := Option.some.inj hm
       refine q_rt ?_
       exact q_rm
      ·refine q_sq ?_
       refine q_vu [] 0 [11, 52] [(54, vb (decide (v12.2 > 0)))] [] [] ?_
       refine q_cn (decide (v12.2 > 0)) (fun b20 => ?_) (fun b20 => ?_)
       ·replace hm := qA b20 hm
        refine q_vn [] 0 ⟨[(10, vc (.val (.int .u64 (IntKind.u64.wrap (v12.1 + 1)))))], []⟩ ?_
        exact q_J (IntKind.u64.wrap (v12.1 + 1)) hm
       ·replace hm := qB b20 hm
        refine q_sk ?_
        exact q_J (v12.1) hm
    ·rcases Bool.eq_false_or_eq_true (decide (v12.1 > 9223372036854775808)) with b16 | b16
     ·replace hm := qA b16 hm
      refine q_vu [qf 2 b16] 0 [38] [(52, vb true)] [] [] ?_
      exact q_J (true) hm
     ·replace hm := qB b16 hm
      rcases Bool.eq_false_or_eq_true (v12.1 == 9223372036854775808) with b17 | b17
      ·replace hm := qA b17 hm
       refine q_vu [qf 2 b16, qf 5 b17] 0 [38] [(52, vb (decide (v12.2 > 0)))] [] [] ?_
       exact q_J (decide (v12.2 > 0)) hm
      ·replace hm := qB b17 hm
       refine q_vu [qf 2 b16, qf 5 b17] 0 [38] [(52, vb false)] [] [] ?_
       exact q_J (false) hm
set_option maxRecDepth 100000
def CX (r : Int) : V := vi r
def qAj (r : Int) : List (Nat × (Nat × O)) := []
def VI (a1 : Yield) (x5 : Bool) : St :=
 ⟨[(1, vp 0 0), (12, vb x5)], [(0, bx 41 (qH a1))]⟩
theorem ZB (a1 : Yield) (r : Int) (hm : yC a1 = some r) : CtX Try.prog globs 14 0 0 [.agg (qH a1)] [] (CX r) (qAj r) := by
 unfold yC at hm
 refine q_E Try.f14 24 fun E => ?_
 refine q_sq ?_
 refine q_vn [] 0 ⟨[(1, vp 0 0)], [(0, bx 41 (qH a1))]⟩ ?_
 refine q_sq ?_
 refine q_jn (ι := Bool) (fun p => VI a1 p) (fun p => QW a1 p = some r) ?_ ?_
 ·rintro x5 hm
  show H _ (VI a1 x5) _ _
  refine q_cn x5 (fun b6 => ?_) (fun b6 => ?_)
  ·replace hm := qA b6 hm
   refine q_sq ?_
   refine q_vn [] 1 ⟨[(2, vi 0)], []⟩ ?_
   obtain rfl := Option.some.inj hm
   refine q_rt ?_
   exact q_rm
  ·replace hm := qB b6 hm
   refine q_sk ?_
   refine q_sq ?_
   obtain ⟨v7, h8, hm⟩ := qC hm
   refine q_vn [qk 4 [15, 17] 1 ⟨[(15, vi a1.Boards), (17, vi a1.Log)], []⟩ (qAt 1000 a1.Boards a1.Log v7 h8)] 1 ⟨[(3, vi v7.1), (4, vi v7.2)], []⟩ ?_
   refine q_sq ?_
   refine q_sq ?_
   refine q_vu [] 1 [4] [(22, vb (v7.2 != 0))] [] [] ?_
   refine q_cn (v7.2 != 0) (fun b9 => ?_) (fun b9 => ?_)
   ·replace hm := qA b9 hm
    refine q_sq ?_
    refine q_vn [] 1 ⟨[(2, vi 0)], []⟩ ?_
    obtain rfl := Option.some.inj hm
    refine q_rt ?_
    exact q_rm
   ·replace hm := qB b9 hm
    refine q_sk ?_
    refine q_sq ?_
    refine q_vn [] 1 ⟨[(2, vi v7.1)], []⟩ ?_
    obtain rfl := Option.some.inj hm
    refine q_rt ?_
    exact q_rm
 ·obtain ⟨v2, h3, hm⟩ := qC hm
  rcases Bool.eq_false_or_eq_true (!v2) with b4 | b4
  ·replace hm := qA b4 hm
   refine q_vu [qc 1 [5] 1 (wY a1 v2 h3), qf 3 b4] 1 [] [(12, vb true)] [] [] ?_
   exact q_J (true) hm
  ·replace hm := qB b4 hm
   refine q_vu [qc 1 [5] 1 (wY a1 v2 h3), qf 3 b4] 1 [] [(12, vb (a1.Log == 0))] [] [] ?_
   exact q_J (a1.Log == 0) hm
open Go.Proofs
set_option maxHeartbeats 4000000
set_option maxRecDepth 100000
def qAe (r : Int) : V := vi r
def CJ (r : Int) : List (Nat × (Nat × O)) := []
def UU (a1 : Yield) (x8 : Int) (x9 : Int) (x10 : Int) (x14 : Int) (x17 : Int) (x18 : Int) : St :=
 ⟨[(1, vp 0 0), (3, vi x8), (4, vi x9), (5, vi x10), (6, vi x17), (7, vi x18), (8, vi x14)], [(0, bx 41 (qH a1))]⟩
def JJ (a1 : Yield) (x8 : Int) (x9 : Int) (x10 : Int) (x12 : Int) (x13 : Int) (x14 : Int) : St :=
 ⟨[(1, vp 0 0), (3, vi x8), (4, vi x9), (5, vi x10), (6, vi x12), (7, vi x13), (8, vi x14)], [(0, bx 41 (qH a1))]⟩
def VH (a1 : Yield) (x8 : Int) (x10 : Int) (x19 : Int) (x20 : Int) : St :=
 ⟨[(1, vp 0 0), (3, vi x8), (5, vi x10), (6, vi x19), (7, vi x20)], [(0, bx 41 (qH a1))]⟩
def JO (a1 : Yield) (x8 : Int) (x9 : Int) (x10 : Int) : St :=
 ⟨[(1, vp 0 0), (3, vi x8), (4, vi x9), (5, vi x10)], [(0, bx 41 (qH a1))]⟩
def VG (x23 : Int) : St :=
 ⟨[(3, vi x23)], []⟩
def UX (a1 : Yield) (x5 : Bool) : St :=
 ⟨[(1, vp 0 0), (16, vb x5)], [(0, bx 41 (qH a1))]⟩
theorem SP (E : Env 0) (a1 : Yield) (x8 : Int) (x9 : Int) (x10 : Int) : ∀ (n : Nat) (x12 : Int) (x13 : Int) (x14 : Int) (res : Int × Int), zC a1 x9 n x12 x13 x14 = some res → HL (kx E 58 0) (nd Try.f21 125236) (wK 2 (fun o => VH a1 x8 x10 o.1 o.2) res) n (JJ a1 x8 x9 x10 x12 x13 x14) := by
 intro n
 induction n with
 | zero =>
  intro x12 x13 x14 res hm
  cases hm
 | succ n ih =>
  intro x12 x13 x14 res hm
  refine qV ?_
  refine q_sq ?_
  refine q_sq ?_
  refine q_vu [] 1 [] [(32, vb (decide (x14 < 10)))] [] [] ?_
  refine q_cn (decide (x14 < 10)) (fun b15 => ?_) (fun b15 => ?_)
  ·replace hm := qA b15 hm
   refine q_sk ?_
   refine q_jn (ι := Int × Int) (fun p => UU a1 x8 x9 x10 x14 p.1 p.2) (fun p => ZD x14 (zC a1 x9 n) p.1 p.2 = some res) ?_ ?_
   ·rintro ⟨x17, x18⟩ hm
    show H _ (UU a1 x8 x9 x10 x14 x17 x18) _ _
    refine q_vu [] 1 [8] [(8, vi (w64 (x14 + 1)))] [] [] ?_
    exact q_hl (JJ a1 x8 x9 x10 x17 x18 (w64 (x14 + 1))) (ih x17 x18 (w64 (x14 + 1)) _ hm)
   ·refine q_bk 3 ?_
    refine q_sq ?_
    refine q_vu [] 1 [32] [(40, vb (decide (x13 ≥ (w64 (a1.Log - x9)))))] [] [] ?_
    refine q_cn (decide (x13 ≥ (w64 (a1.Log - x9)))) (fun b16 => ?_) (fun b16 => ?_)
    ·replace hm := qA b16 hm
     refine q_sq ?_
     refine q_vu [] 1 [7, 40] [(7, vi (w64 (x13 - (w64 (a1.Log - x9)))))] [] [] ?_
     refine q_vu [] 1 [6] [(6, vi (w64 (x12 + 1)))] [] [] ?_
     exact q_J (w64 (x12 + 1), w64 (x13 - (w64 (a1.Log - x9)))) hm
    ·replace hm := qB b16 hm
     refine q_vu [] 1 [7, 40] [(7, vi (w64 (x13 + x9)))] [] [] ?_
     exact q_J (x12, w64 (x13 + x9)) hm
  ·replace hm := qB b15 hm
   refine q_ex 2 ?_
   obtain rfl := Option.some.inj hm
   exact jR (by kernel_rfl) (by kernel_rfl)
theorem SN (E : Env 0) (a1 : Yield) : ∀ (n : Nat) (x8 : Int) (x9 : Int) (x10 : Int) (res : Int), zS a1 n x8 x9 x10 = some res → HL (kx E 58 0) (nd Try.f21 244) (wK 0 (fun o => VG o) res) n (JO a1 x8 x9 x10) := by
 intro n
 induction n with
 | zero =>
  intro x8 x9 x10 res hm
  cases hm
 | succ n ih =>
  intro x8 x9 x10 res hm
  refine qV ?_
  refine q_sq ?_
  refine q_sq ?_
  refine q_vu [] 1 [] [(28, vb (decide (x10 < 3)))] [] [] ?_
  refine q_cn (decide (x10 < 3)) (fun b11 => ?_) (fun b11 => ?_)
  ·replace hm := qA b11 hm
   refine q_sk ?_
   refine q_sq ?_
   refine q_bk 1 ?_
   refine q_sq ?_
   refine q_vu [] 1 [28] [(6, vi 0)] [] [] ?_
   refine q_sq ?_
   refine q_vu [] 1 [] [(7, vi 0)] [] [] ?_
   refine q_sq ?_
   refine q_sq ?_
   refine q_vu [] 1 [] [(8, vi 0)] [] [] ?_
   obtain ⟨o21, h22, hm⟩ := qC hm
   refine zY (nd Try.f21 125236) 2 (by kernel_rfl) FUEL (fun o => VH a1 x8 x10 o.1 o.2) o21 (q_hl (JJ a1 x8 x9 x10 0 0 0) (SP E a1 x8 x9 x10 FUEL 0 0 0 o21 h22)) ?_
   refine q_vu [] 1 [3, 6, 7] [(3, vi (w64 ((w64 (10 * x8)) + o21.1))), (4, vi o21.2)] [] [] ?_
   refine q_vu [] 1 [5] [(5, vi (w64 (x10 + 1)))] [] [] ?_
   exact q_hl (JO a1 (w64 ((w64 (10 * x8)) + o21.1)) o21.2 (w64 (x10 + 1))) (ih (w64 ((w64 (10 * x8)) + o21.1)) o21.2 (w64 (x10 + 1)) _ hm)
  ·replace hm := qB b11 hm
   refine q_ex 0 ?_
   obtain rfl := Option.some.inj hm
   exact jR (by kernel_rfl) (by kernel_rfl)
theorem NC (a1 : Yield) (r : Int) (hm : ZT a1 = some r) : CtX Try.prog globs 21 0 0 [.agg (qH a1)] [] (qAe r) (CJ r) := by
 unfold ZT at hm
 refine q_E Try.f21 58 fun E => ?_
 refine q_sq ?_
 refine q_vn [] 0 ⟨[(1, vp 0 0)], [(0, bx 41 (qH a1))]⟩ ?_
 refine q_sq ?_
 refine q_jn (ι := Bool) (fun p => UX a1 p) (fun p => QY a1 p = some r) ?_ ?_
 ·rintro x5 hm
  show H _ (UX a1 x5) _ _
  refine q_cn x5 (fun b6 => ?_) (fun b6 => ?_)
  ·replace hm := qA b6 hm
   refine q_sq ?_
   refine q_vn [] 1 ⟨[(2, vi 0)], []⟩ ?_
   obtain rfl := Option.some.inj hm
   refine q_rt ?_
   exact q_rm
  ·replace hm := qB b6 hm
   refine q_sk ?_
   refine q_sq ?_
   obtain ⟨g7, hm⟩ := qO hm
   refine q_du [qd 4 (Dir.none) (SS g7), qd 9 (Dir.none) (SS g7)] [0, 1, 0, 4, 15, 0, 32, 0, 128, 480, 31, 2047] 1 [16] [(3, vi (w64 (Int.tdiv a1.Boards a1.Log))), (4, vi (Int.tmod a1.Boards a1.Log))] [] [] ?_
   refine q_sq ?_
   refine q_sq ?_
   refine q_vu [] 1 [] [(5, vi 0)] [] [] ?_
   obtain ⟨o24, h25, hm⟩ := qC hm
   refine zY (nd Try.f21 244) 0 (by kernel_rfl) FUEL (fun o => VG o) o24 (q_hl (JO a1 (w64 (Int.tdiv a1.Boards a1.Log)) (Int.tmod a1.Boards a1.Log) 0) (SN E a1 FUEL (w64 (Int.tdiv a1.Boards a1.Log)) (Int.tmod a1.Boards a1.Log) 0 o24 h25)) ?_
   refine q_sq ?_
   refine q_vn [] 1 ⟨[(2, vi o24)], []⟩ ?_
   obtain rfl := Option.some.inj hm
   refine q_rt ?_
   exact q_rm
 ·obtain ⟨v2, h3, hm⟩ := qC hm
  rcases Bool.eq_false_or_eq_true (!v2) with b4 | b4
  ·replace hm := qA b4 hm
   refine q_vu [qc 1 [9] 1 (jW a1 v2 h3), qf 3 b4] 1 [] [(16, vb true)] [] [] ?_
   exact q_J (true) hm
  ·replace hm := qB b4 hm
   refine q_vu [qc 1 [9] 1 (jW a1 v2 h3), qf 3 b4] 1 [] [(16, vb (a1.Log == 0))] [] [] ?_
   exact q_J (a1.Log == 0) hm
def qDR (r : Box) : V := va (wU r)
def qD5 (r : Box) : List (Nat × (Nat × O)) := []
theorem TQ (a1 : Rect) (a2 : Span) (r : Box) (hm : RT a1 a2 = some r) : CtX Try.prog globs 39 0 0 [.agg (qK a1), .agg (e_Span a2)] [] (qDR r) (qD5 r) := by
 unfold RT at hm
 refine q_E Try.f39 11 fun E => ?_
 refine q_sq ?_
 refine q_vn [] 0 ⟨[(2, vp 0 0), (3, vp 1 0), (4, vp 2 0)], [(0, bx 28 (qK a1)), (1, bx 26 (e_Span a2)), (2, bx 52 [ci 0, ci 0, ci 0, ci 0, ci 0, ci 0])]⟩ ?_
 refine q_sq ?_
 refine q_vn [] 3 ⟨[(4, vp 2 0)], [(2, bx 52 [ci a1.X.A, ci a1.X.B, ci a1.Y.A, ci a1.Y.B, ci a2.A, ci a2.B])]⟩ ?_
 obtain rfl := Option.some.inj hm
 refine q_rt ?_
 exact q_rm
set_option maxRecDepth 100000
def qD2 (r : Span) : V := va (e_Span r)
def qDV (r : Span) : List (Nat × (Nat × O)) := []
theorem ZS (a1 : Span) (a2 : Span) (r : Span) (hm : WB a1 a2 = some r) : CtX Try.prog globs 31 0 0 [.agg (e_Span a1), .agg (e_Span a2)] [] (qD2 r) (qDV r) := by
 unfold WB at hm
 refine q_E Try.f31 24 fun E => ?_
 refine q_sq ?_
 refine q_vn [] 0 ⟨[(2, vp 0 0), (3, vp 1 0), (4, vp 2 0)], [(0, bx 26 (e_Span a1)), (1, bx 26 (e_Span a2)), (2, bx 26 [ci 0, ci 0])]⟩ ?_
 refine q_sq ?_
 refine q_vu [] 3 [2, 3] [(5, vp 3 0)] [0, 1] [(3, bx 26 [ci (imax a1.A a2.A), ci (imin a1.B a2.B)])] ?_
 refine q_sq ?_
 refine q_sq ?_
 refine q_vu [] 4 [] [(21, vb (decide ((imax a1.A a2.A) ≥ (imin a1.B a2.B))))] [] [] ?_
 refine q_cn (decide ((imax a1.A a2.A) ≥ (imin a1.B a2.B))) (fun b3 => ?_) (fun b3 => ?_)
 ·replace hm := qA b3 hm
  refine q_sq ?_
  refine q_vu [] 4 [5, 21] [] [3] [] ?_
  obtain rfl := Option.some.inj hm
  refine q_rt ?_
  exact q_rm
 ·replace hm := qB b3 hm
  refine q_sk ?_
  refine q_sq ?_
  refine q_vn [] 4 ⟨[(4, vp 2 0)], [(2, bx 26 [ci (imax a1.A a2.A), ci (imin a1.B a2.B)])]⟩ ?_
  obtain rfl := Option.some.inj hm
  refine q_rt ?_
  exact q_rm
open Go.Proofs
set_option maxHeartbeats 4000000
set_option maxRecDepth 100000
def qD4 (r : Int) : V := vc (.val (.int .u64 r))
def qD0 (r : Int) : List (Nat × (Nat × O)) := []
theorem qDI (a1 : Span) (r : Int) (hm : AF a1 = some r) : CtX Try.prog globs 49 0 0 [.agg (e_Span a1)] [] (qD4 r) (qD0 r) := by
 unfold AF at hm
 refine q_E Try.f49 15 fun E => ?_
 refine q_sq ?_
 refine q_vn [] 0 ⟨[(1, vp 0 0)], [(0, bx 26 (e_Span a1))]⟩ ?_
 refine q_sq ?_
 refine q_sq ?_
 refine q_vu [] 1 [] [(7, vb (decide (a1.A ≥ a1.B)))] [] [] ?_
 refine q_cn (decide (a1.A ≥ a1.B)) (fun b2 => ?_) (fun b2 => ?_)
 ·replace hm := qA b2 hm
  refine q_sq ?_
  refine q_vn [] 1 ⟨[(2, vc (.val (.int .u64 0)))], []⟩ ?_
  obtain rfl := Option.some.inj hm
  refine q_rt ?_
  exact q_rm
 ·replace hm := qB b2 hm
  refine q_sk ?_
  refine q_sq ?_
  refine q_vn [] 1 ⟨[(2, vc (.val (.int .u64 (IntKind.u64.wrap ((IntKind.u64.wrap (a1.B)) - (IntKind.u64.wrap (a1.A)))))))], []⟩ ?_
  obtain rfl := Option.some.inj hm
  refine q_rt ?_
  exact q_rm
def qBU (r : Int) : V := vi r
def qBN (r : Int) : List (Nat × (Nat × O)) := []
theorem qAA (a1 : Int) (r : Int) (hm : FJ a1 = some r) : CtX Try.prog globs 48 0 0 [.one (.val (.int .u64 a1))] [] (qBU r) (qBN r) := by
 unfold FJ at hm
 refine q_E Try.f48 6 fun E => ?_
 refine q_sq ?_
 refine q_vn [] 0 ⟨[(0, vc (.val (.int .u64 a1)))], []⟩ ?_
 refine q_sq ?_
 refine q_vn [] 0 ⟨[(2, vi (w64 (imin a1 9223372036854775807)))], []⟩ ?_
 obtain rfl := Option.some.inj hm
 refine q_rt ?_
 exact q_rm
set_option maxRecDepth 100000
def qEM (r : Int) : V := vi r
def qEC (r : Int) : List (Nat × (Nat × O)) := []
theorem JA (a1 : Span) (r : Int) (hm : YY a1 = some r) : CtX Try.prog globs 30 0 0 [.agg (e_Span a1)] [] (qEM r) (qEC r) := by
 unfold YY at hm
 refine q_E Try.f30 6 fun E => ?_
 refine q_sq ?_
 refine q_vn [] 0 ⟨[(1, vp 0 0)], [(0, bx 26 (e_Span a1))]⟩ ?_
 refine q_sq ?_
 obtain ⟨v2, h3, hm⟩ := qC hm
 obtain ⟨v4, h5, hm⟩ := qC hm
 refine q_vn [qc 1 [3] 1 (qDI a1 v2 h3), qc 2 [4] 1 (qAA v2 v4 h5)] 1 ⟨[(2, vi v4)], []⟩ ?_
 obtain rfl := Option.some.inj hm
 refine q_rt ?_
 exact q_rm
open Go.Proofs
set_option maxHeartbeats 4000000
set_option maxRecDepth 100000
def OJ (r : Span) : V := va (e_Span r)
def OK (r : Span) : List (Nat × (Nat × O)) := []
theorem AO (a1 : Int) (a2 : Int) (r : Span) (hm : TL a1 a2 = some r) : CtX Try.prog globs 50 0 0 [.one (ci a1), .one (ci a2)] [] (OJ r) (OK r) := by
 unfold TL at hm
 refine q_E Try.f50 10 fun E => ?_
 refine q_sq ?_
 refine q_vn [] 0 ⟨[(0, vi a1), (1, vi a2), (4, vp 0 0)], [(0, bx 26 [ci 0, ci 0])]⟩ ?_
 refine q_sq ?_
 refine q_vu [] 1 [0, 1] [] [0] [(0, bx 26 [ci (w64 (10 * a1)), ci (w64 (10 * a2))])] ?_
 obtain rfl := Option.some.inj hm
 refine q_rt ?_
 exact q_rm
def OC (r : Bool) : V := vb r
def OE (r : Bool) : List (Nat × (Nat × O)) := []
def UP (x3 : Bool) : St :=
 ⟨[(2, vb x3)], []⟩
theorem EW (a1 : Span) (r : Bool) (hm : TE a1 = some r) : CtX Try.prog globs 85 0 0 [.agg (e_Span a1)] [] (OC r) (OE r) := by
 unfold TE at hm
 refine q_E Try.f85 17 fun E => ?_
 refine q_sq ?_
 refine q_vn [] 0 ⟨[(1, vp 0 0)], [(0, bx 26 (e_Span a1))]⟩ ?_
 refine q_jn (ι := Bool) (fun p => UP p) (fun p => XO p = some r) ?_ ?_
 ·rintro x3 hm
  show H _ (UP x3) _ _
  obtain rfl := Option.some.inj hm
  refine q_rt ?_
  exact q_rm
 ·rcases Bool.eq_false_or_eq_true (decide ((imin a1.A a1.B) ≥ (-600))) with b2 | b2
  ·replace hm := qA b2 hm
   refine q_vn [qf 6 b2] 1 ⟨[(2, vb (decide ((imax a1.A a1.B) ≤ 600)))], []⟩ ?_
   exact q_J (decide ((imax a1.A a1.B) ≤ 600)) hm
  ·replace hm := qB b2 hm
   refine q_vn [qf 6 b2] 1 ⟨[(2, vb false)], []⟩ ?_
   exact q_J (false) hm
set_option maxRecDepth 100000
def IW (r : Bool) : V := vb r
def OA (r : Bool) : List (Nat × (Nat × O)) := []
theorem jL (a1 : Span) (r : Bool) (hm : QJ a1 = some r) : CtX Try.prog globs 86 0 0 [.agg (e_Span a1)] [] (IW r) (OA r) := by
 unfold QJ at hm
 refine q_E Try.f86 8 fun E => ?_
 refine q_sq ?_
 refine q_vn [] 0 ⟨[(1, vp 0 0)], [(0, bx 26 (e_Span a1))]⟩ ?_
 refine q_sq ?_
 refine q_vn [] 1 ⟨[(2, vb (decide (a1.A ≥ a1.B)))], []⟩ ?_
 obtain rfl := Option.some.inj hm
 refine q_rt ?_
 exact q_rm
open Go.Proofs
set_option maxHeartbeats 4000000
set_option maxRecDepth 100000
def QI (r : Int) : V := vi r
def QC (r : Int) : List (Nat × (Nat × O)) := []
def XK (a1 : qT) (x6 : Int) : St :=
 ⟨[(1, vp 0 0), (3, vi ((a1.Rows.length : Nat) : Int)), (24, vc (tl e_Span default a1.Rows)), (25, vi ((a1.Rows.length : Nat) : Int)), (26, vi x6)], [(0, bx 66 (zJ a1))]⟩
def DF (a1 : qT) : St :=
 ⟨[(1, vp 0 0), (3, vi ((a1.Rows.length : Nat) : Int))], [(0, bx 66 (zJ a1))]⟩
def DK (a1 : qT) (x27 : Int) (x33 : Bool) : St :=
 ⟨[(54, vc (tl e_Span default a1.Rows)), (55, vi ((a1.Rows.length : Nat) : Int)), (56, vi x27), (66, vb x33)], []⟩
def XC (a1 : qT) (x27 : Int) : St :=
 ⟨[(54, vc (tl e_Span default a1.Rows)), (55, vi ((a1.Rows.length : Nat) : Int)), (56, vi x27)], []⟩
def DO : St :=
 ⟨[], []⟩
def DJ (a1 : qT) (x25 : Bool) : St :=
 ⟨[(1, vp 0 0), (52, vb x25)], [(0, bx 66 (zJ a1))]⟩
def GV (a1 : qT) (x4 : Bool) : St :=
 ⟨[(1, vp 0 0), (3, vi ((a1.Rows.length : Nat) : Int)), (22, vb x4)], [(0, bx 66 (zJ a1))]⟩
theorem EH (E : Env 0) (a1 : qT) : ∀ (n : Nat) (x6 : Int) (res : Int ⊕ Unit), RH a1 n x6 = some res → HL (kx E 68 0) (nd Try.f65 500) (jD 0 (fun o => DF a1) (fun v st => RetQ Try.prog Try.f65 (QI v) (QC v) .ret st) res) n (XK a1 x6) := by
 intro n
 induction n with
 | zero =>
  intro x6 res hm
  cases hm
 | succ n ih =>
  intro x6 res hm
  refine qV ?_
  refine q_sq ?_
  refine q_vu [] 1 [] [(27, vb (decide (x6 < ((a1.Rows.length : Nat) : Int))))] [] [] ?_
  refine q_sq ?_
  refine q_cn (decide (x6 < ((a1.Rows.length : Nat) : Int))) (fun b7 => ?_) (fun b7 => ?_)
  ·replace hm := qA b7 hm
   refine q_sk ?_
   refine q_sq ?_
   refine q_bk 1 ?_
   refine q_sq ?_
   obtain ⟨g8, hm⟩ := qO hm
   refine q_vu [qd 0 (Dir.none) (inb_of g8)] 1 [27] [(5, vp 1 0)] [] [(1, bx 26 [ci ((a1.Rows.getD x6.toNat default).A), ci ((a1.Rows.getD x6.toNat default).B)])] ?_
   refine q_sq ?_
   obtain ⟨v9, h10, hm⟩ := qC hm
   refine q_vu [qc 1 [30] 2 (EW (a1.Rows.getD x6.toNat default) v9 h10)] 2 [5] [(32, vb (!v9))] [1] [] ?_
   refine q_cn (!v9) (fun b11 => ?_) (fun b11 => ?_)
   ·replace hm := qA b11 hm
    refine q_sq ?_
    refine q_vn [] 2 ⟨[(2, vi 9)], []⟩ ?_
    obtain rfl := Option.some.inj hm
    refine q_rt ?_
    refine zB 9 ?_
    exact q_rm
   ·replace hm := qB b11 hm
    refine q_sk ?_
    refine q_vu [] 2 [26, 32] [(26, vi (w64 (x6 + 1)))] [] [] ?_
    exact q_hl (XK a1 (w64 (x6 + 1))) (ih (w64 (x6 + 1)) _ hm)
  ·replace hm := qB b7 hm
   refine q_ex 0 ?_
   obtain rfl := Option.some.inj hm
   exact jJ () (by kernel_rfl) (by kernel_rfl)
theorem EI (E : Env 0) (a1 : qT) : ∀ (n : Nat) (x27 : Int) (res : Int ⊕ Unit), yP a1 n x27 = some res → HL (kx E 68 0) (nd Try.f65 4084) (jD 2 (fun o => DO) (fun v st => RetQ Try.prog Try.f65 (QI v) (QC v) .ret st) res) n (XC a1 x27) := by
 intro n
 induction n with
 | zero =>
  intro x27 res hm
  cases hm
 | succ n ih =>
  intro x27 res hm
  refine qV ?_
  refine q_sq ?_
  refine q_vu [] 1 [] [(57, vb (decide (x27 < ((a1.Rows.length : Nat) : Int))))] [] [] ?_
  refine q_sq ?_
  refine q_cn (decide (x27 < ((a1.Rows.length : Nat) : Int))) (fun b28 => ?_) (fun b28 => ?_)
  ·replace hm := qA b28 hm
   refine q_sk ?_
   refine q_sq ?_
   refine q_bk 3 ?_
   refine q_sq ?_
   obtain ⟨g29, hm⟩ := qO hm
   refine q_vu [qd 0 (Dir.none) (inb_of g29)] 1 [57] [(7, vp 1 0)] [] [(1, bx 26 [ci ((a1.Rows.getD x27.toNat default).A), ci ((a1.Rows.getD x27.toNat default).B)])] ?_
   refine q_jn (ι := Bool) (fun p => DK a1 x27 p) (fun p => RC x27 (yP a1 n) p = some res) ?_ ?_
   ·rintro x33 hm
    show H _ (DK a1 x27 x33) _ _
    refine q_cn x33 (fun b34 => ?_) (fun b34 => ?_)
    ·replace hm := qA b34 hm
     refine q_sq ?_
     refine q_vn [] 2 ⟨[(2, vi 19)], []⟩ ?_
     obtain rfl := Option.some.inj hm
     refine q_rt ?_
     refine zB 19 ?_
     exact q_rm
    ·replace hm := qB b34 hm
     refine q_sk ?_
     refine q_vu [] 2 [56, 66] [(56, vi (w64 (x27 + 1)))] [] [] ?_
     exact q_hl (XC a1 (w64 (x27 + 1))) (ih (w64 (x27 + 1)) _ hm)
   ·obtain ⟨v30, h31, hm⟩ := qC hm
    rcases Bool.eq_false_or_eq_true v30 with b32 | b32
    ·replace hm := qA b32 hm
     refine q_vu [qc 1 [60] 2 (jL (a1.Rows.getD x27.toNat default) v30 h31), qf 2 b32] 2 [7] [(66, vb (!((((a1.Rows.getD x27.toNat default).A) == 0) && ((((a1.Rows.getD x27.toNat default).B) == 0) && true))))] [1] [] ?_
     exact q_J (!((((a1.Rows.getD x27.toNat default).A) == 0) && ((((a1.Rows.getD x27.toNat default).B) == 0) && true))) hm
    ·replace hm := qB b32 hm
     refine q_vu [qc 1 [60] 2 (jL (a1.Rows.getD x27.toNat default) v30 h31), qf 2 b32] 2 [7] [(66, vb false)] [1] [] ?_
     exact q_J (false) hm
  ·replace hm := qB b28 hm
   refine q_ex 2 ?_
   obtain rfl := Option.some.inj hm
   exact jJ () (by kernel_rfl) (by kernel_rfl)
theorem FP (a1 : qT) (r : Int) (hm : PD a1 = some r) : CtX Try.prog globs 65 0 0 [.agg (zJ a1)] [] (QI r) (QC r) := by
 unfold PD at hm
 refine q_E Try.f65 68 fun E => ?_
 refine q_sq ?_
 refine q_vn [] 0 ⟨[(1, vp 0 0)], [(0, bx 66 (zJ a1))]⟩ ?_
 refine q_sq ?_
 refine q_vu [] 1 [] [(3, vi ((a1.Rows.length : Nat) : Int))] [] [] ?_
 refine q_sq ?_
 refine q_sq ?_
 refine q_vu [] 1 [] [(12, vb (decide (((a1.Rows.length : Nat) : Int) > 120)))] [] [] ?_
 refine q_cn (decide (((a1.Rows.length : Nat) : Int) > 120)) (fun b2 => ?_) (fun b2 => ?_)
 ·replace hm := qA b2 hm
  refine q_sq ?_
  refine q_vn [] 1 ⟨[(2, vi 4)], []⟩ ?_
  obtain rfl := Option.some.inj hm
  refine q_rt ?_
  exact q_rm
 ·replace hm := qB b2 hm
  refine q_sk ?_
  refine q_sq ?_
  refine q_jn (ι := Bool) (fun p => GV a1 p) (fun p => PW a1 p = some r) ?_ ?_
  ·rintro x4 hm
   show H _ (GV a1 x4) _ _
   refine q_cn x4 (fun b5 => ?_) (fun b5 => ?_)
   ·replace hm := qA b5 hm
    refine q_sq ?_
    refine q_vn [] 1 ⟨[(2, vi 9)], []⟩ ?_
    obtain rfl := Option.some.inj hm
    refine q_rt ?_
    exact q_rm
   ·replace hm := qB b5 hm
    refine q_sk ?_
    refine q_sq ?_
    refine q_sq ?_
    refine q_vu [] 1 [22] [(24, vc (tl e_Span default a1.Rows)), (25, vi ((a1.Rows.length : Nat) : Int)), (26, vi 0)] [] [] ?_
    obtain ⟨u14, h13, hm⟩ := qC hm
    refine zI (nd Try.f65 500) 0 (by kernel_rfl) FUEL (fun o => DF a1) (fun v st => RetQ Try.prog Try.f65 (QI v) (QC v) .ret st) u14 (q_hl (XK a1 0) (EH E a1 FUEL 0 u14 h13)) ?_ ?_
    ·rintro v15 rfl st hr
     obtain rfl := Option.some.inj hm
     exact hr
    ·rintro o12 rfl
     replace hm : _ = some r := hm
     refine q_sq ?_
     refine q_sq ?_
     refine q_vu [] 1 [] [(35, vb (((a1.Rows.length : Nat) : Int) == 0))] [] [] ?_
     refine q_cn (((a1.Rows.length : Nat) : Int) == 0) (fun b16 => ?_) (fun b16 => ?_)
     ·replace hm := qA b16 hm
      refine q_sq ?_
      refine q_sq ?_
      refine q_vn [] 1 ⟨[(38, vb (a1.Low != 0))], []⟩ ?_
      refine q_cn (a1.Low != 0) (fun b17 => ?_) (fun b17 => ?_)
      ·replace hm := qA b17 hm
       refine q_sq ?_
       refine q_vn [] 1 ⟨[(2, vi 19)], []⟩ ?_
       obtain rfl := Option.some.inj hm
       refine q_rt ?_
       exact q_rm
      ·replace hm := qB b17 hm
       refine q_sk ?_
       refine q_sq ?_
       refine q_vn [] 1 ⟨[(2, vi 0)], []⟩ ?_
       obtain rfl := Option.some.inj hm
       refine q_rt ?_
       exact q_rm
     ·replace hm := qB b16 hm
      refine q_sk ?_
      refine q_sq ?_
      refine q_jn (ι := Bool) (fun p => DJ a1 p) (fun p => PY a1 p = some r) ?_ ?_
      ·rintro x25 hm
       show H _ (DJ a1 x25) _ _
       refine q_cn x25 (fun b26 => ?_) (fun b26 => ?_)
       ·replace hm := qA b26 hm
        refine q_sq ?_
        refine q_vn [] 1 ⟨[(2, vi 19)], []⟩ ?_
        obtain rfl := Option.some.inj hm
        refine q_rt ?_
        exact q_rm
       ·replace hm := qB b26 hm
        refine q_sk ?_
        refine q_sq ?_
        refine q_sq ?_
        refine q_vn [] 1 ⟨[(54, vc (tl e_Span default a1.Rows)), (55, vi ((a1.Rows.length : Nat) : Int)), (56, vi 0)], []⟩ ?_
        obtain ⟨u37, h36, hm⟩ := qC hm
        refine zI (nd Try.f65 4084) 2 (by kernel_rfl) FUEL (fun o => DO) (fun v st => RetQ Try.prog Try.f65 (QI v) (QC v) .ret st) u37 (q_hl (XC a1 0) (EI E a1 FUEL 0 u37 h36)) ?_ ?_
        ·rintro v38 rfl st hr
         obtain rfl := Option.some.inj hm
         exact hr
        ·rintro o35 rfl
         replace hm : _ = some r := hm
         refine q_sq ?_
         refine q_vn [] 1 ⟨[(2, vi 0)], []⟩ ?_
         obtain rfl := Option.some.inj hm
         refine q_rt ?_
         exact q_rm
      ·obtain ⟨g18, hm⟩ := qO hm
       obtain ⟨v19, h20, hm⟩ := qC hm
       rcases Bool.eq_false_or_eq_true v19 with b21 | b21
       ·replace hm := qA b21 hm
        refine q_vu [qd 2 (Dir.none) (inb_of g18), qc 4 [42] 1 (jL (a1.Rows.getD (0 : Int).toNat default) v19 h20), qf 5 b21] 1 [3, 35] [(52, vb true)] [] [] ?_
        exact q_J (true) hm
       ·replace hm := qB b21 hm
        obtain ⟨g22, hm⟩ := qO hm
        obtain ⟨v23, h24, hm⟩ := qC hm
        refine q_vu [qd 2 (Dir.none) (inb_of g18), qc 4 [42] 1 (jL (a1.Rows.getD (0 : Int).toNat default) v19 h20), qf 5 b21, qd 10 (Dir.none) (inb_of g22), qk 12 [44, 50] 1 ⟨[(44, vb false), (50, va [ci ((a1.Rows.getD (w64 (((a1.Rows.length : Nat) : Int) - 1)).toNat default).A), ci ((a1.Rows.getD (w64 (((a1.Rows.length : Nat) : Int) - 1)).toNat default).B)])], []⟩ (jL (a1.Rows.getD (w64 (((a1.Rows.length : Nat) : Int) - 1)).toNat default) v23 h24)] 1 [3, 35] [(52, vb v23)] [] [] ?_
        exact q_J (v23) hm
  ·rcases Bool.eq_false_or_eq_true (decide (a1.Low < (-60))) with b3 | b3
   ·replace hm := qA b3 hm
    refine q_vu [qf 3 b3] 1 [12] [(22, vb true)] [] [] ?_
    exact q_J (true) hm
   ·replace hm := qB b3 hm
    refine q_vu [qf 3 b3] 1 [12] [(22, vb (decide (a1.Low > (w64 (60 - ((a1.Rows.length : Nat) : Int))))))] [] [] ?_
    exact q_J (decide (a1.Low > (w64 (60 - ((a1.Rows.length : Nat) : Int))))) hm
def qAl (r : qT) : V := va (zJ r)
def qAW (r : qT) : List (Nat × (Nat × O)) := []
theorem FB (a1 : qT) (r : qT) (hm : PA a1 = some r) : CtX Try.prog globs 44 0 0 [.agg (zJ a1)] [] (qAl r) (qAW r) := by
 unfold PA at hm
 refine q_E Try.f44 8 fun E => ?_
 refine q_sq ?_
 refine q_vn [] 0 ⟨[(1, vp 0 0), (2, vp 1 0)], [(0, bx 66 (zJ a1)), (1, bx 66 [ci 0, .emp])]⟩ ?_
 refine q_sq ?_
 refine q_sq ?_
 obtain ⟨v2, h3, hm⟩ := qC hm
 refine q_vu [qc 1 [3] 2 (FP a1 v2 h3)] 2 [] [(5, vb (v2 != 0))] [] [] ?_
 refine q_cn (v2 != 0) (fun b4 => ?_) (fun b4 => ?_)
 ·replace hm := qA b4 hm
  refine q_sq ?_
  refine q_vu [] 2 [1, 5] [] [0] [] ?_
  refine q_fn [.ownB 1 1 2 26 2 (rf e_Span ([] : List Span))] ⟨[(2, vp 1 0)], [(1, bx 66 [ci 0, .own 2 0 2 0]), (2, ro 0 26 2 0 (rf e_Span ([] : List Span)))]⟩ o0 ?_
  refine q_fn [.len 2 (([] : List Span).length), .frz 2] ⟨[(2, vp 1 0)], [(1, bx 66 [ci 0, tl e_Span default ([] : List Span)])]⟩ (o1 (And.intro (And.intro (show 0 = ([] : List Span).length from rfl) (show 0 = ([] : List Span).length from rfl)) (Nat.le_refl (([] : List Span).length)))) ?_
  obtain rfl := Option.some.inj hm
  refine q_rt ?_
  exact q_rm
 ·replace hm := qB b4 hm
  refine q_sk ?_
  refine q_sq ?_
  refine q_vn [] 2 ⟨[(2, vp 1 0)], [(1, bx 66 (zJ a1))]⟩ ?_
  obtain rfl := Option.some.inj hm
  refine q_rt ?_
  exact q_rm
end Saw
end Go.SL
