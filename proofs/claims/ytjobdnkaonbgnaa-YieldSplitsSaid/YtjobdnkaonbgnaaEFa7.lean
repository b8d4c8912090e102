import Derived.Test.YtjobdnkaonbgnaaEBase
set_option linter.unusedVariables false
set_option linter.unusedSimpArgs false
namespace Go.SL
namespace Saw
open Go.Proofs
set_option maxHeartbeats 4000000
set_option maxRecDepth 100000
def qBa (r : Int) : V := vc (.val (.int .u64 r))
def qBn (r : Int) : List (Nat × (Nat × O)) := []
theorem LK (a1 : Int) (r : Int) (hm : PR a1 = some r) : CtX Try.prog globs 46 0 0 [.one (ci a1)] [] (qBa r) (qBn r) := by
 unfold PR at hm
 refine q_E Try.f46 10 fun E => ?_
 refine q_sq ?_
 refine q_vn [] 0 ⟨[(0, vi a1)], []⟩ ?_
 refine q_sq ?_
 refine q_sq ?_
 refine q_vu [] 0 [] [(4, vb (decide (a1 < 0)))] [] [] ?_
 refine q_cn (decide (a1 < 0)) (fun b2 => ?_) (fun b2 => ?_)
 ·replace hm := qA b2 hm
  refine q_sq ?_
  refine q_vn [] 0 ⟨[(2, vc (.val (.int .u64 (IntKind.u64.wrap (0 - (IntKind.u64.wrap (a1)))))))], []⟩ ?_
  obtain rfl := Option.some.inj hm
  refine q_rt ?_
  exact q_rm
 ·replace hm := qB b2 hm
  refine q_sk ?_
  refine q_sq ?_
  refine q_vn [] 0 ⟨[(2, vc (.val (.int .u64 (IntKind.u64.wrap (a1)))))], []⟩ ?_
  obtain rfl := Option.some.inj hm
  refine q_rt ?_
  exact q_rm
def qBk (r : Int × Int) : V := .tup [.one (.val (.int .u64 r.1)), .one (.val (.int .u64 r.2))]
def qA9 (r : Int × Int) : List (Nat × (Nat × O)) := []
theorem qAP (a1 : Int) (a2 : Int) (r : Int × Int) (hm : BV a1 a2 = some r) : CtX Try.prog globs 45 0 0 [.one (.val (.int .u64 a1)), .one (.val (.int .u64 a2))] [] (qBk r) (qA9 r) := by
 unfold BV at hm
 refine q_E Try.f45 51 fun E => ?_
 refine q_sq ?_
 refine q_vn [] 0 ⟨[(0, vc (.val (.int .u64 a1))), (1, vc (.val (.int .u64 a2)))], []⟩ ?_
 refine q_sq ?_
 refine q_vu [] 0 [] [(6, vc (.val (.int .u64 (andI .u64 a1 4294967295))))] [] [] ?_
 refine q_sq ?_
 refine q_vu [qd 1 (Dir.none) (show ¬ (32 : Int) < 0 by decide)] 0 [] [(7, vc (.val (.int .u64 (shrI .u64 a1 32))))] [] [] ?_
 refine q_sq ?_
 refine q_vu [] 0 [] [(8, vc (.val (.int .u64 (andI .u64 a2 4294967295))))] [] [] ?_
 refine q_sq ?_
 refine q_vu [qd 1 (Dir.none) (show ¬ (32 : Int) < 0 by decide)] 0 [] [(9, vc (.val (.int .u64 (shrI .u64 a2 32))))] [] [] ?_
 refine q_sq ?_
 refine q_vu [] 0 [] [(10, vc (.val (.int .u64 (IntKind.u64.wrap ((andI .u64 a1 4294967295) * (andI .u64 a2 4294967295))))))] [] [] ?_
 refine q_sq ?_
 refine q_vu [qd 4 (Dir.none) (show ¬ (32 : Int) < 0 by decide)] 0 [8, 10] [(11, vc (.val (.int .u64 (IntKind.u64.wrap ((IntKind.u64.wrap ((shrI .u64 a1 32) * (andI .u64 a2 4294967295))) + (shrI .u64 (IntKind.u64.wrap ((andI .u64 a1 4294967295) * (andI .u64 a2 4294967295))) 32))))))] [] [] ?_
 refine q_sq ?_
 refine q_vu [] 0 [] [(12, vc (.val (.int .u64 (andI .u64 (IntKind.u64.wrap ((IntKind.u64.wrap ((shrI .u64 a1 32) * (andI .u64 a2 4294967295))) + (shrI .u64 (IntKind.u64.wrap ((andI .u64 a1 4294967295) * (andI .u64 a2 4294967295))) 32))) 4294967295))))] [] [] ?_
 refine q_sq ?_
 refine q_vu [qd 1 (Dir.none) (show ¬ (32 : Int) < 0 by decide)] 0 [11] [(13, vc (.val (.int .u64 (shrI .u64 (IntKind.u64.wrap ((IntKind.u64.wrap ((shrI .u64 a1 32) * (andI .u64 a2 4294967295))) + (shrI .u64 (IntKind.u64.wrap ((andI .u64 a1 4294967295) * (andI .u64 a2 4294967295))) 32))) 32))))] [] [] ?_
 refine q_sq ?_
 refine q_vu [] 0 [6, 12] [(12, vc (.val (.int .u64 (IntKind.u64.wrap ((andI .u64 (IntKind.u64.wrap ((IntKind.u64.wrap ((shrI .u64 a1 32) * (andI .u64 a2 4294967295))) + (shrI .u64 (IntKind.u64.wrap ((andI .u64 a1 4294967295) * (andI .u64 a2 4294967295))) 32))) 4294967295) + (IntKind.u64.wrap ((andI .u64 a1 4294967295) * (shrI .u64 a2 32))))))))] [] [] ?_
 refine q_sq ?_
 refine q_vu [qd 6 (Dir.none) (show ¬ (32 : Int) < 0 by decide)] 0 [7, 9, 12, 13] [(4, vc (.val (.int .u64 (IntKind.u64.wrap ((IntKind.u64.wrap ((IntKind.u64.wrap ((shrI .u64 a1 32) * (shrI .u64 a2 32))) + (shrI .u64 (IntKind.u64.wrap ((IntKind.u64.wrap ((shrI .u64 a1 32) * (andI .u64 a2 4294967295))) + (shrI .u64 (IntKind.u64.wrap ((andI .u64 a1 4294967295) * (andI .u64 a2 4294967295))) 32))) 32))) + (shrI .u64 (IntKind.u64.wrap ((andI .u64 (IntKind.u64.wrap ((IntKind.u64.wrap ((shrI .u64 a1 32) * (andI .u64 a2 4294967295))) + (shrI .u64 (IntKind.u64.wrap ((andI .u64 a1 4294967295) * (andI .u64 a2 4294967295))) 32))) 4294967295) + (IntKind.u64.wrap ((andI .u64 a1 4294967295) * (shrI .u64 a2 32))))) 32))))))] [] [] ?_
 refine q_sq ?_
 refine q_vu [] 0 [0, 1] [(5, vc (.val (.int .u64 (IntKind.u64.wrap (a1 * a2)))))] [] [] ?_
 obtain rfl := Option.some.inj hm
 refine q_rt ?_
 exact q_rm
set_option maxRecDepth 100000
def qBv (r : Int) : V := vi r
def qBe (r : Int) : List (Nat × (Nat × O)) := []
def DP (x9 : Int) (x10 : Int) : St :=
 ⟨[(0, vc (.val (.int .u64 x9))), (2, vi x10)], []⟩
def DR (x6 : Int) (x7 : Int) : St :=
 ⟨[(0, vc (.val (.int .u64 x6))), (2, vi x7)], []⟩
def DM (x3 : Int) (x4 : Int) : St :=
 ⟨[(0, vc (.val (.int .u64 x3))), (2, vi x4)], []⟩
theorem qAa (a1 : Int) (r : Int) (hm : BS a1 = some r) : CtX Try.prog globs 87 0 0 [.one (.val (.int .u64 a1))] [] (qBv r) (qBe r) := by
 unfold BS at hm
 refine q_E Try.f87 25 fun E => ?_
 refine q_sq ?_
 refine q_vn [] 0 ⟨[(0, vc (.val (.int .u64 a1))), (2, vi 0)], []⟩ ?_
 refine q_jn (ι := Int × Int) (fun p => DM p.1 p.2) (fun p => TL p.1 p.2 = some r) ?_ ?_
 ·rintro ⟨x3, x4⟩ hm
  show H _ (DM x3 x4) _ _
  refine q_jn (ι := Int × Int) (fun p => DR p.1 p.2) (fun p => TC p.1 p.2 = some r) ?_ ?_
  ·rintro ⟨x6, x7⟩ hm
   show H _ (DR x6 x7) _ _
   refine q_jn (ι := Int × Int) (fun p => DP p.1 p.2) (fun p => TF p.1 p.2 = some r) ?_ ?_
   ·rintro ⟨x9, x10⟩ hm
    show H _ (DP x9 x10) _ _
    refine q_sq ?_
    obtain ⟨g11, hm⟩ := qQ hm
    refine q_vn [qd 3 (Dir.none) (inb_of g11)] 0 ⟨[(2, vi (w64 (x10 + (w64 (strAt (ByteArray.mk #[0, 1, 2, 2, 3, 3, 3, 3, 4, 4, 4, 4, 4, 4, 4, 4, 5, 5, 5, 5, 5, 5, 5, 5, 5, 5, 5, 5, 5, 5, 5, 5, 6, 6, 6, 6, 6, 6, 6, 6, 6, 6, 6, 6, 6, 6, 6, 6, 6, 6, 6, 6, 6, 6, 6, 6, 6, 6, 6, 6, 6, 6, 6, 6, 7, 7, 7, 7, 7, 7, 7, 7, 7, 7, 7, 7, 7, 7, 7, 7, 7, 7, 7, 7, 7, 7, 7, 7, 7, 7, 7, 7, 7, 7, 7, 7, 7, 7, 7, 7, 7, 7, 7, 7, 7, 7, 7, 7, 7, 7, 7, 7, 7, 7, 7, 7, 7, 7, 7, 7, 7, 7, 7, 7, 7, 7, 7, 7, 8, 8, 8, 8, 8, 8, 8, 8, 8, 8, 8, 8, 8, 8, 8, 8, 8, 8, 8, 8, 8, 8, 8, 8, 8, 8, 8, 8, 8, 8, 8, 8, 8, 8, 8, 8, 8, 8, 8, 8, 8, 8, 8, 8, 8, 8, 8, 8, 8, 8, 8, 8, 8, 8, 8, 8, 8, 8, 8, 8, 8, 8, 8, 8, 8, 8, 8, 8, 8, 8, 8, 8, 8, 8, 8, 8, 8, 8, 8, 8, 8, 8, 8, 8, 8, 8, 8, 8, 8, 8, 8, 8, 8, 8, 8, 8, 8, 8, 8, 8, 8, 8, 8, 8, 8, 8, 8, 8, 8, 8, 8, 8, 8, 8, 8, 8, 8, 8, 8, 8, 8, 8, 8, 8, 8, 8, 8, 8]) ((IntKind.u8.wrap (x9)).toNat))))))], []⟩ ?_
    obtain rfl := Option.some.inj hm
    refine q_rt ?_
    exact q_rm
   ·refine q_sq ?_
    refine q_vu [] 0 [] [(14, vb (decide (x6 ≥ 256)))] [] [] ?_
    refine q_cn (decide (x6 ≥ 256)) (fun b8 => ?_) (fun b8 => ?_)
    ·replace hm := qA b8 hm
     refine q_sq ?_
     refine q_vu [qd 1 (Dir.none) (show ¬ (8 : Int) < 0 by decide)] 0 [0, 14] [(0, vc (.val (.int .u64 (shrI .u64 x6 8))))] [] [] ?_
     refine q_vu [] 0 [2] [(2, vi (w64 (x7 + 8)))] [] [] ?_
     exact q_J (shrI .u64 x6 8, w64 (x7 + 8)) hm
    ·replace hm := qB b8 hm
     refine q_sk ?_
     exact q_J (x6, x7) hm
  ·refine q_sq ?_
   refine q_vu [] 0 [] [(8, vb (decide (x3 ≥ 65536)))] [] [] ?_
   refine q_cn (decide (x3 ≥ 65536)) (fun b5 => ?_) (fun b5 => ?_)
   ·replace hm := qA b5 hm
    refine q_sq ?_
    refine q_vu [qd 1 (Dir.none) (show ¬ (16 : Int) < 0 by decide)] 0 [0, 8] [(0, vc (.val (.int .u64 (shrI .u64 x3 16))))] [] [] ?_
    refine q_vu [] 0 [2] [(2, vi (w64 (x4 + 16)))] [] [] ?_
    exact q_J (shrI .u64 x3 16, w64 (x4 + 16)) hm
   ·replace hm := qB b5 hm
    refine q_sk ?_
    exact q_J (x3, x4) hm
 ·refine q_sq ?_
  refine q_vu [] 0 [] [(4, vb (decide (a1 ≥ 4294967296)))] [] [] ?_
  refine q_cn (decide (a1 ≥ 4294967296)) (fun b2 => ?_) (fun b2 => ?_)
  ·replace hm := qA b2 hm
   refine q_sq ?_
   refine q_vn [qd 1 (Dir.none) (show ¬ (32 : Int) < 0 by decide)] 0 ⟨[(0, vc (.val (.int .u64 (shrI .u64 a1 32))))], []⟩ ?_
   refine q_vu [] 0 [] [(2, vi 32)] [] [] ?_
   exact q_J (shrI .u64 a1 32, 32) hm
  ·replace hm := qB b2 hm
   refine q_sk ?_
   exact q_J (a1, 0) hm
open Go.Proofs
set_option maxHeartbeats 4000000
set_option maxRecDepth 100000
def LP (r : Int) : V := vi r
def LT (r : Int) : List (Nat × (Nat × O)) := []
theorem FU (a1 : Int) (r : Int) (hm : WU a1 = some r) : CtX Try.prog globs 66 0 0 [.one (.val (.int .u64 a1))] [] (LP r) (LT r) := by
 unfold WU at hm
 refine q_E Try.f66 6 fun E => ?_
 refine q_sq ?_
 refine q_vn [] 0 ⟨[(0, vc (.val (.int .u64 a1)))], []⟩ ?_
 refine q_sq ?_
 obtain ⟨v2, h3, hm⟩ := qC hm
 refine q_vn [qc 1 [3] 0 (qAa a1 v2 h3)] 0 ⟨[(2, vi (w64 (64 - v2)))], []⟩ ?_
 obtain rfl := Option.some.inj hm
 refine q_rt ?_
 exact q_rm
def qBl (r : Int × Int) : V := .tup [.one (.val (.int .u64 r.1)), .one (.val (.int .u64 r.2))]
def qBq (r : Int × Int) : List (Nat × (Nat × O)) := []
def DW (a1 : Int) (a2 : Int) (a3 : Int) (v8 : Int) (x13 : Int) (x14 : Int) (x16 : Bool) : St :=
 ⟨[(2, vc (.val (.int .u64 (shlI .u64 a3 (IntKind.u64.wrap (v8)))))), (8, vc (.val (.int .u64 (IntKind.u64.wrap (v8))))), (9, vc (.val (.int .u64 (shrI .u64 (shlI .u64 a3 (IntKind.u64.wrap (v8))) 32)))), (10, vc (.val (.int .u64 (andI .u64 (shlI .u64 a3 (IntKind.u64.wrap (v8))) 4294967295)))), (11, vc (.val (.int .u64 (orI .u64 (shlI .u64 a1 (IntKind.u64.wrap (v8))) (shrI .u64 a2 (IntKind.u64.wrap (64 - (IntKind.u64.wrap (v8))))))))), (13, vc (.val (.int .u64 (shrI .u64 (shlI .u64 a2 (IntKind.u64.wrap (v8))) 32)))), (14, vc (.val (.int .u64 (andI .u64 (shlI .u64 a2 (IntKind.u64.wrap (v8))) 4294967295)))), (15, vc (.val (.int .u64 x13))), (16, vc (.val (.int .u64 x14))), (78, vb x16)], []⟩
def KL (a1 : Int) (a2 : Int) (a3 : Int) (v8 : Int) (x13 : Int) (x14 : Int) : St :=
 ⟨[(2, vc (.val (.int .u64 (shlI .u64 a3 (IntKind.u64.wrap (v8)))))), (8, vc (.val (.int .u64 (IntKind.u64.wrap (v8))))), (9, vc (.val (.int .u64 (shrI .u64 (shlI .u64 a3 (IntKind.u64.wrap (v8))) 32)))), (10, vc (.val (.int .u64 (andI .u64 (shlI .u64 a3 (IntKind.u64.wrap (v8))) 4294967295)))), (11, vc (.val (.int .u64 (orI .u64 (shlI .u64 a1 (IntKind.u64.wrap (v8))) (shrI .u64 a2 (IntKind.u64.wrap (64 - (IntKind.u64.wrap (v8))))))))), (13, vc (.val (.int .u64 (shrI .u64 (shlI .u64 a2 (IntKind.u64.wrap (v8))) 32)))), (14, vc (.val (.int .u64 (andI .u64 (shlI .u64 a2 (IntKind.u64.wrap (v8))) 4294967295)))), (15, vc (.val (.int .u64 x13))), (16, vc (.val (.int .u64 x14)))], []⟩
def BI (a1 : Int) (a2 : Int) (a3 : Int) (v8 : Int) (x19 : Int) : St :=
 ⟨[(2, vc (.val (.int .u64 (shlI .u64 a3 (IntKind.u64.wrap (v8)))))), (8, vc (.val (.int .u64 (IntKind.u64.wrap (v8))))), (9, vc (.val (.int .u64 (shrI .u64 (shlI .u64 a3 (IntKind.u64.wrap (v8))) 32)))), (10, vc (.val (.int .u64 (andI .u64 (shlI .u64 a3 (IntKind.u64.wrap (v8))) 4294967295)))), (11, vc (.val (.int .u64 (orI .u64 (shlI .u64 a1 (IntKind.u64.wrap (v8))) (shrI .u64 a2 (IntKind.u64.wrap (64 - (IntKind.u64.wrap (v8))))))))), (13, vc (.val (.int .u64 (shrI .u64 (shlI .u64 a2 (IntKind.u64.wrap (v8))) 32)))), (14, vc (.val (.int .u64 (andI .u64 (shlI .u64 a2 (IntKind.u64.wrap (v8))) 4294967295)))), (15, vc (.val (.int .u64 x19)))], []⟩
def BQ (a1 : Int) (a2 : Int) (a3 : Int) (v8 : Int) (o20 : Int) (x22 : Int) (x23 : Int) (x25 : Bool) : St :=
 ⟨[(2, vc (.val (.int .u64 (shlI .u64 a3 (IntKind.u64.wrap (v8)))))), (8, vc (.val (.int .u64 (IntKind.u64.wrap (v8))))), (9, vc (.val (.int .u64 (shrI .u64 (shlI .u64 a3 (IntKind.u64.wrap (v8))) 32)))), (10, vc (.val (.int .u64 (andI .u64 (shlI .u64 a3 (IntKind.u64.wrap (v8))) 4294967295)))), (14, vc (.val (.int .u64 (andI .u64 (shlI .u64 a2 (IntKind.u64.wrap (v8))) 4294967295)))), (15, vc (.val (.int .u64 o20))), (16, vc (.val (.int .u64 x22))), (17, vc (.val (.int .u64 (IntKind.u64.wrap ((IntKind.u64.wrap ((IntKind.u64.wrap ((orI .u64 (shlI .u64 a1 (IntKind.u64.wrap (v8))) (shrI .u64 a2 (IntKind.u64.wrap (64 - (IntKind.u64.wrap (v8)))))) * 4294967296)) + (shrI .u64 (shlI .u64 a2 (IntKind.u64.wrap (v8))) 32))) - (IntKind.u64.wrap (o20 * (shlI .u64 a3 (IntKind.u64.wrap (v8)))))))))), (18, vc (.val (.int .u64 x23))), (113, vb x25)], []⟩
def KS (a1 : Int) (a2 : Int) (a3 : Int) (v8 : Int) (o20 : Int) (x22 : Int) (x23 : Int) : St :=
 ⟨[(2, vc (.val (.int .u64 (shlI .u64 a3 (IntKind.u64.wrap (v8)))))), (8, vc (.val (.int .u64 (IntKind.u64.wrap (v8))))), (9, vc (.val (.int .u64 (shrI .u64 (shlI .u64 a3 (IntKind.u64.wrap (v8))) 32)))), (10, vc (.val (.int .u64 (andI .u64 (shlI .u64 a3 (IntKind.u64.wrap (v8))) 4294967295)))), (14, vc (.val (.int .u64 (andI .u64 (shlI .u64 a2 (IntKind.u64.wrap (v8))) 4294967295)))), (15, vc (.val (.int .u64 o20))), (16, vc (.val (.int .u64 x22))), (17, vc (.val (.int .u64 (IntKind.u64.wrap ((IntKind.u64.wrap ((IntKind.u64.wrap ((orI .u64 (shlI .u64 a1 (IntKind.u64.wrap (v8))) (shrI .u64 a2 (IntKind.u64.wrap (64 - (IntKind.u64.wrap (v8)))))) * 4294967296)) + (shrI .u64 (shlI .u64 a2 (IntKind.u64.wrap (v8))) 32))) - (IntKind.u64.wrap (o20 * (shlI .u64 a3 (IntKind.u64.wrap (v8)))))))))), (18, vc (.val (.int .u64 x23)))], []⟩
def DQ (a1 : Int) (a2 : Int) (a3 : Int) (v8 : Int) (o20 : Int) (x28 : Int) : St :=
 ⟨[(2, vc (.val (.int .u64 (shlI .u64 a3 (IntKind.u64.wrap (v8)))))), (8, vc (.val (.int .u64 (IntKind.u64.wrap (v8))))), (14, vc (.val (.int .u64 (andI .u64 (shlI .u64 a2 (IntKind.u64.wrap (v8))) 4294967295)))), (15, vc (.val (.int .u64 o20))), (17, vc (.val (.int .u64 (IntKind.u64.wrap ((IntKind.u64.wrap ((IntKind.u64.wrap ((orI .u64 (shlI .u64 a1 (IntKind.u64.wrap (v8))) (shrI .u64 a2 (IntKind.u64.wrap (64 - (IntKind.u64.wrap (v8)))))) * 4294967296)) + (shrI .u64 (shlI .u64 a2 (IntKind.u64.wrap (v8))) 32))) - (IntKind.u64.wrap (o20 * (shlI .u64 a3 (IntKind.u64.wrap (v8)))))))))), (18, vc (.val (.int .u64 x28)))], []⟩
theorem IQ (E : Env 0) (a1 : Int) (a2 : Int) (a3 : Int) (v8 : Int) : ∀ (n : Nat) (x13 : Int) (x14 : Int) (res : Int), ZF a2 a3 v8 n x13 x14 = some res → HL (kx E 135 0) (nd Try.f47 262136) (jW 0 (fun o => BI a1 a2 a3 v8 o) res) n (KL a1 a2 a3 v8 x13 x14) := by
 intro n
 induction n with
 | zero =>
  intro x13 x14 res hm
  cases hm
 | succ n ih =>
  intro x13 x14 res hm
  refine qU ?_
  refine q_sq ?_
  refine q_jn (ι := Bool) (fun p => DW a1 a2 a3 v8 x13 x14 p) (fun p => TQ a3 v8 x13 x14 (ZF a2 a3 v8 n) p = some res) ?_ ?_
  ·rintro x16 hm
   show H _ (DW a1 a2 a3 v8 x13 x14 x16) _ _
   refine q_cn x16 (fun b17 => ?_) (fun b17 => ?_)
   ·replace hm := qA b17 hm
    refine q_sk ?_
    refine q_bk 1 ?_
    refine q_sq ?_
    refine q_vu [] 0 [15, 78] [(15, vc (.val (.int .u64 (IntKind.u64.wrap (x13 - 1)))))] [] [] ?_
    refine q_sq ?_
    refine q_vu [] 0 [16] [(16, vc (.val (.int .u64 (IntKind.u64.wrap (x14 + (shrI .u64 (shlI .u64 a3 (IntKind.u64.wrap (v8))) 32))))))] [] [] ?_
    refine q_sq ?_
    refine q_vu [] 0 [] [(85, vb (decide ((IntKind.u64.wrap (x14 + (shrI .u64 (shlI .u64 a3 (IntKind.u64.wrap (v8))) 32))) ≥ 4294967296)))] [] [] ?_
    refine q_cn (decide ((IntKind.u64.wrap (x14 + (shrI .u64 (shlI .u64 a3 (IntKind.u64.wrap (v8))) 32))) ≥ 4294967296)) (fun b18 => ?_) (fun b18 => ?_)
    ·replace hm := qA b18 hm
     refine q_ex 0 ?_
     obtain rfl := Option.some.inj hm
     exact ZG (by kernel_rfl) (by kernel_rfl)
    ·replace hm := qB b18 hm
     refine q_sk ?_
     exact q_hl (KL a1 a2 a3 v8 (IntKind.u64.wrap (x13 - 1)) (IntKind.u64.wrap (x14 + (shrI .u64 (shlI .u64 a3 (IntKind.u64.wrap (v8))) 32)))) (ih (IntKind.u64.wrap (x13 - 1)) (IntKind.u64.wrap (x14 + (shrI .u64 (shlI .u64 a3 (IntKind.u64.wrap (v8))) 32))) _ hm)
   ·replace hm := qB b17 hm
    refine q_ex 0 ?_
    obtain rfl := Option.some.inj hm
    exact ZG (by kernel_rfl) (by kernel_rfl)
  ·rcases Bool.eq_false_or_eq_true (decide (x13 ≥ 4294967296)) with b15 | b15
   ·replace hm := qA b15 hm
    refine q_vu [qf 2 b15] 0 [] [(78, vb true)] [] [] ?_
    exact q_J (true) hm
   ·replace hm := qB b15 hm
    refine q_vu [qf 2 b15] 0 [] [(78, vb (decide ((IntKind.u64.wrap (x13 * (andI .u64 (shlI .u64 a3 (IntKind.u64.wrap (v8))) 4294967295))) > (IntKind.u64.wrap ((IntKind.u64.wrap (4294967296 * x14)) + (shrI .u64 (shlI .u64 a2 (IntKind.u64.wrap (v8))) 32))))))] [] [] ?_
    exact q_J (decide ((IntKind.u64.wrap (x13 * (andI .u64 (shlI .u64 a3 (IntKind.u64.wrap (v8))) 4294967295))) > (IntKind.u64.wrap ((IntKind.u64.wrap (4294967296 * x14)) + (shrI .u64 (shlI .u64 a2 (IntKind.u64.wrap (v8))) 32))))) hm
theorem IP (E : Env 0) (a1 : Int) (a2 : Int) (a3 : Int) (v8 : Int) (o20 : Int) : ∀ (n : Nat) (x22 : Int) (x23 : Int) (res : Int), ZE a2 a3 v8 n x22 x23 = some res → HL (kx E 135 0) (nd Try.f47 4194296) (jW 2 (fun o => DQ a1 a2 a3 v8 o20 o) res) n (KS a1 a2 a3 v8 o20 x22 x23) := by
 intro n
 induction n with
 | zero =>
  intro x22 x23 res hm
  cases hm
 | succ n ih =>
  intro x22 x23 res hm
  refine qU ?_
  refine q_sq ?_
  refine q_jn (ι := Bool) (fun p => BQ a1 a2 a3 v8 o20 x22 x23 p) (fun p => TD a3 v8 x22 x23 (ZE a2 a3 v8 n) p = some res) ?_ ?_
  ·rintro x25 hm
   show H _ (BQ a1 a2 a3 v8 o20 x22 x23 x25) _ _
   refine q_cn x25 (fun b26 => ?_) (fun b26 => ?_)
   ·replace hm := qA b26 hm
    refine q_sk ?_
    refine q_bk 3 ?_
    refine q_sq ?_
    refine q_vu [] 0 [18, 113] [(18, vc (.val (.int .u64 (IntKind.u64.wrap (x23 - 1)))))] [] [] ?_
    refine q_sq ?_
    refine q_vu [] 0 [16] [(16, vc (.val (.int .u64 (IntKind.u64.wrap (x22 + (shrI .u64 (shlI .u64 a3 (IntKind.u64.wrap (v8))) 32))))))] [] [] ?_
    refine q_sq ?_
    refine q_vu [] 0 [] [(120, vb (decide ((IntKind.u64.wrap (x22 + (shrI .u64 (shlI .u64 a3 (IntKind.u64.wrap (v8))) 32))) ≥ 4294967296)))] [] [] ?_
    refine q_cn (decide ((IntKind.u64.wrap (x22 + (shrI .u64 (shlI .u64 a3 (IntKind.u64.wrap (v8))) 32))) ≥ 4294967296)) (fun b27 => ?_) (fun b27 => ?_)
    ·replace hm := qA b27 hm
     refine q_ex 2 ?_
     obtain rfl := Option.some.inj hm
     exact ZG (by kernel_rfl) (by kernel_rfl)
    ·replace hm := qB b27 hm
     refine q_sk ?_
     exact q_hl (KS a1 a2 a3 v8 o20 (IntKind.u64.wrap (x22 + (shrI .u64 (shlI .u64 a3 (IntKind.u64.wrap (v8))) 32))) (IntKind.u64.wrap (x23 - 1))) (ih (IntKind.u64.wrap (x22 + (shrI .u64 (shlI .u64 a3 (IntKind.u64.wrap (v8))) 32))) (IntKind.u64.wrap (x23 - 1)) _ hm)
   ·replace hm := qB b26 hm
    refine q_ex 2 ?_
    obtain rfl := Option.some.inj hm
    exact ZG (by kernel_rfl) (by kernel_rfl)
  ·rcases Bool.eq_false_or_eq_true (decide (x23 ≥ 4294967296)) with b24 | b24
   ·replace hm := qA b24 hm
    refine q_vu [qf 2 b24] 0 [] [(113, vb true)] [] [] ?_
    exact q_J (true) hm
   ·replace hm := qB b24 hm
    refine q_vu [qf 2 b24] 0 [] [(113, vb (decide ((IntKind.u64.wrap (x23 * (andI .u64 (shlI .u64 a3 (IntKind.u64.wrap (v8))) 4294967295))) > (IntKind.u64.wrap ((IntKind.u64.wrap (4294967296 * x22)) + (andI .u64 (shlI .u64 a2 (IntKind.u64.wrap (v8))) 4294967295))))))] [] [] ?_
    exact q_J (decide ((IntKind.u64.wrap (x23 * (andI .u64 (shlI .u64 a3 (IntKind.u64.wrap (v8))) 4294967295))) > (IntKind.u64.wrap ((IntKind.u64.wrap (4294967296 * x22)) + (andI .u64 (shlI .u64 a2 (IntKind.u64.wrap (v8))) 4294967295))))) hm
theorem qAq (a1 : Int) (a2 : Int) (a3 : Int) (r : Int × Int) (hm : BP a1 a2 a3 = some r) : CtX Try.prog globs 47 0 0 [.one (.val (.int .u64 a1)), .one (.val (.int .u64 a2)), .one (.val (.int .u64 a3))] [] (qBl r) (qBq r) := by
 unfold BP at hm
 refine q_E Try.f47 135 fun E => ?_
 refine q_sq ?_
 refine q_vn [] 0 ⟨[(0, vc (.val (.int .u64 a1))), (1, vc (.val (.int .u64 a2))), (2, vc (.val (.int .u64 a3)))], []⟩ ?_
 refine q_sq ?_
 refine q_sq ?_
 refine q_vu [] 0 [] [(20, vb (a3 == 0))] [] [] ?_
 refine q_cn (a3 == 0) (fun b4 => ?_) (fun b4 => ?_)
 ·replace hm := qA b4 hm
  cases hm
 ·replace hm := qB b4 hm
  refine q_sk ?_
  refine q_sq ?_
  refine q_sq ?_
  refine q_vu [] 0 [20] [(24, vb (decide (a3 ≤ a1)))] [] [] ?_
  refine q_cn (decide (a3 ≤ a1)) (fun b5 => ?_) (fun b5 => ?_)
  ·replace hm := qA b5 hm
   cases hm
  ·replace hm := qB b5 hm
   refine q_sk ?_
   refine q_sq ?_
   refine q_sq ?_
   refine q_vu [] 0 [24] [(27, vb (a1 == 0))] [] [] ?_
   refine q_cn (a1 == 0) (fun b6 => ?_) (fun b6 => ?_)
   ·replace hm := qA b6 hm
    refine q_sq ?_
    obtain ⟨g7, hm⟩ := qQ hm
    refine q_dn [qd 2 (Dir.none) (qA7 g7), qd 5 (Dir.none) (qA7 g7)] [0, 0, 3, 0, 0, 24, 7, 127] 0 ⟨[(6, vc (.val (.int .u64 (IntKind.u64.wrap (Int.tdiv a2 a3))))), (7, vc (.val (.int .u64 (Int.tmod a2 a3))))], []⟩ ?_
    obtain rfl := Option.some.inj hm
    refine q_rt ?_
    exact q_rm
   ·replace hm := qB b6 hm
    refine q_sk ?_
    refine q_sq ?_
    obtain ⟨v8, h9, hm⟩ := qC hm
    refine q_vu [qc 1 [34] 0 (FU a3 v8 h9)] 0 [27] [(8, vc (.val (.int .u64 (IntKind.u64.wrap (v8)))))] [] [] ?_
    refine q_sq ?_
    obtain ⟨g10, hm⟩ := qQ hm
    refine q_vu [qd 2 (Dir.none) (IR g10)] 0 [2] [(2, vc (.val (.int .u64 (shlI .u64 a3 (IntKind.u64.wrap (v8))))))] [] [] ?_
    refine q_sq ?_
    refine q_vu [qd 1 (Dir.none) (show ¬ (32 : Int) < 0 by decide)] 0 [] [(9, vc (.val (.int .u64 (shrI .u64 (shlI .u64 a3 (IntKind.u64.wrap (v8))) 32))))] [] [] ?_
    refine q_sq ?_
    refine q_vu [] 0 [] [(10, vc (.val (.int .u64 (andI .u64 (shlI .u64 a3 (IntKind.u64.wrap (v8))) 4294967295))))] [] [] ?_
    refine q_sq ?_
    obtain ⟨g11, hm⟩ := qQ hm
    refine q_vu [qd 2 (Dir.none) (IR g10), qd 6 (Dir.none) (IR g11)] 0 [0] [(11, vc (.val (.int .u64 (orI .u64 (shlI .u64 a1 (IntKind.u64.wrap (v8))) (shrI .u64 a2 (IntKind.u64.wrap (64 - (IntKind.u64.wrap (v8)))))))))] [] [] ?_
    refine q_sq ?_
    refine q_vu [qd 2 (Dir.none) (IR g10)] 0 [1] [(12, vc (.val (.int .u64 (shlI .u64 a2 (IntKind.u64.wrap (v8))))))] [] [] ?_
    refine q_sq ?_
    refine q_vu [qd 1 (Dir.none) (show ¬ (32 : Int) < 0 by decide)] 0 [] [(13, vc (.val (.int .u64 (shrI .u64 (shlI .u64 a2 (IntKind.u64.wrap (v8))) 32))))] [] [] ?_
    refine q_sq ?_
    refine q_vu [] 0 [12] [(14, vc (.val (.int .u64 (andI .u64 (shlI .u64 a2 (IntKind.u64.wrap (v8))) 4294967295))))] [] [] ?_
    refine q_sq ?_
    obtain ⟨g12, hm⟩ := qQ hm
    refine q_vu [qd 2 (Dir.none) (qA7 g12)] 0 [] [(15, vc (.val (.int .u64 (IntKind.u64.wrap (Int.tdiv (orI .u64 (shlI .u64 a1 (IntKind.u64.wrap (v8))) (shrI .u64 a2 (IntKind.u64.wrap (64 - (IntKind.u64.wrap (v8)))))) (shrI .u64 (shlI .u64 a3 (IntKind.u64.wrap (v8))) 32))))))] [] [] ?_
    refine q_sq ?_
    refine q_vu [] 0 [] [(16, vc (.val (.int .u64 (IntKind.u64.wrap ((orI .u64 (shlI .u64 a1 (IntKind.u64.wrap (v8))) (shrI .u64 a2 (IntKind.u64.wrap (64 - (IntKind.u64.wrap (v8)))))) - (IntKind.u64.wrap ((IntKind.u64.wrap (Int.tdiv (orI .u64 (shlI .u64 a1 (IntKind.u64.wrap (v8))) (shrI .u64 a2 (IntKind.u64.wrap (64 - (IntKind.u64.wrap (v8)))))) (shrI .u64 (shlI .u64 a3 (IntKind.u64.wrap (v8))) 32))) * (shrI .u64 (shlI .u64 a3 (IntKind.u64.wrap (v8))) 32))))))))] [] [] ?_
    refine q_sq ?_
    obtain ⟨o20, h21, hm⟩ := qC hm
    refine jJ (nd Try.f47 262136) 0 (by kernel_rfl) FUEL (fun o => BI a1 a2 a3 v8 o) o20 (q_hl (KL a1 a2 a3 v8 (IntKind.u64.wrap (Int.tdiv (orI .u64 (shlI .u64 a1 (IntKind.u64.wrap (v8))) (shrI .u64 a2 (IntKind.u64.wrap (64 - (IntKind.u64.wrap (v8)))))) (shrI .u64 (shlI .u64 a3 (IntKind.u64.wrap (v8))) 32))) (IntKind.u64.wrap ((orI .u64 (shlI .u64 a1 (IntKind.u64.wrap (v8))) (shrI .u64 a2 (IntKind.u64.wrap (64 - (IntKind.u64.wrap (v8)))))) - (IntKind.u64.wrap ((IntKind.u64.wrap (Int.tdiv (orI .u64 (shlI .u64 a1 (IntKind.u64.wrap (v8))) (shrI .u64 a2 (IntKind.u64.wrap (64 - (IntKind.u64.wrap (v8)))))) (shrI .u64 (shlI .u64 a3 (IntKind.u64.wrap (v8))) 32))) * (shrI .u64 (shlI .u64 a3 (IntKind.u64.wrap (v8))) 32)))))) (IQ E a1 a2 a3 v8 FUEL (IntKind.u64.wrap (Int.tdiv (orI .u64 (shlI .u64 a1 (IntKind.u64.wrap (v8))) (shrI .u64 a2 (IntKind.u64.wrap (64 - (IntKind.u64.wrap (v8)))))) (shrI .u64 (shlI .u64 a3 (IntKind.u64.wrap (v8))) 32))) (IntKind.u64.wrap ((orI .u64 (shlI .u64 a1 (IntKind.u64.wrap (v8))) (shrI .u64 a2 (IntKind.u64.wrap (64 - (IntKind.u64.wrap (v8)))))) - (IntKind.u64.wrap ((IntKind.u64.wrap (Int.tdiv (orI .u64 (shlI .u64 a1 (IntKind.u64.wrap (v8))) (shrI .u64 a2 (IntKind.u64.wrap (64 - (IntKind.u64.wrap (v8)))))) (shrI .u64 (shlI .u64 a3 (IntKind.u64.wrap (v8))) 32))) * (shrI .u64 (shlI .u64 a3 (IntKind.u64.wrap (v8))) 32))))) o20 h21)) ?_
    refine q_sq ?_
    refine q_vu [] 0 [11, 13] [(17, vc (.val (.int .u64 (IntKind.u64.wrap ((IntKind.u64.wrap ((IntKind.u64.wrap ((orI .u64 (shlI .u64 a1 (IntKind.u64.wrap (v8))) (shrI .u64 a2 (IntKind.u64.wrap (64 - (IntKind.u64.wrap (v8)))))) * 4294967296)) + (shrI .u64 (shlI .u64 a2 (IntKind.u64.wrap (v8))) 32))) - (IntKind.u64.wrap (o20 * (shlI .u64 a3 (IntKind.u64.wrap (v8))))))))))] [] [] ?_
    refine q_sq ?_
    refine q_vu [qd 2 (Dir.none) (qA7 g12)] 0 [] [(18, vc (.val (.int .u64 (IntKind.u64.wrap (Int.tdiv (IntKind.u64.wrap ((IntKind.u64.wrap ((IntKind.u64.wrap ((orI .u64 (shlI .u64 a1 (IntKind.u64.wrap (v8))) (shrI .u64 a2 (IntKind.u64.wrap (64 - (IntKind.u64.wrap (v8)))))) * 4294967296)) + (shrI .u64 (shlI .u64 a2 (IntKind.u64.wrap (v8))) 32))) - (IntKind.u64.wrap (o20 * (shlI .u64 a3 (IntKind.u64.wrap (v8))))))) (shrI .u64 (shlI .u64 a3 (IntKind.u64.wrap (v8))) 32))))))] [] [] ?_
    refine q_sq ?_
    refine q_vu [] 0 [] [(16, vc (.val (.int .u64 (IntKind.u64.wrap ((IntKind.u64.wrap ((IntKind.u64.wrap ((IntKind.u64.wrap ((orI .u64 (shlI .u64 a1 (IntKind.u64.wrap (v8))) (shrI .u64 a2 (IntKind.u64.wrap (64 - (IntKind.u64.wrap (v8)))))) * 4294967296)) + (shrI .u64 (shlI .u64 a2 (IntKind.u64.wrap (v8))) 32))) - (IntKind.u64.wrap (o20 * (shlI .u64 a3 (IntKind.u64.wrap (v8))))))) - (IntKind.u64.wrap ((IntKind.u64.wrap (Int.tdiv (IntKind.u64.wrap ((IntKind.u64.wrap ((IntKind.u64.wrap ((orI .u64 (shlI .u64 a1 (IntKind.u64.wrap (v8))) (shrI .u64 a2 (IntKind.u64.wrap (64 - (IntKind.u64.wrap (v8)))))) * 4294967296)) + (shrI .u64 (shlI .u64 a2 (IntKind.u64.wrap (v8))) 32))) - (IntKind.u64.wrap (o20 * (shlI .u64 a3 (IntKind.u64.wrap (v8))))))) (shrI .u64 (shlI .u64 a3 (IntKind.u64.wrap (v8))) 32))) * (shrI .u64 (shlI .u64 a3 (IntKind.u64.wrap (v8))) 32))))))))] [] [] ?_
    refine q_sq ?_
    obtain ⟨o29, h30, hm⟩ := qC hm
    refine jJ (nd Try.f47 4194296) 2 (by kernel_rfl) FUEL (fun o => DQ a1 a2 a3 v8 o20 o) o29 (q_hl (KS a1 a2 a3 v8 o20 (IntKind.u64.wrap ((IntKind.u64.wrap ((IntKind.u64.wrap ((IntKind.u64.wrap ((orI .u64 (shlI .u64 a1 (IntKind.u64.wrap (v8))) (shrI .u64 a2 (IntKind.u64.wrap (64 - (IntKind.u64.wrap (v8)))))) * 4294967296)) + (shrI .u64 (shlI .u64 a2 (IntKind.u64.wrap (v8))) 32))) - (IntKind.u64.wrap (o20 * (shlI .u64 a3 (IntKind.u64.wrap (v8))))))) - (IntKind.u64.wrap ((IntKind.u64.wrap (Int.tdiv (IntKind.u64.wrap ((IntKind.u64.wrap ((IntKind.u64.wrap ((orI .u64 (shlI .u64 a1 (IntKind.u64.wrap (v8))) (shrI .u64 a2 (IntKind.u64.wrap (64 - (IntKind.u64.wrap (v8)))))) * 4294967296)) + (shrI .u64 (shlI .u64 a2 (IntKind.u64.wrap (v8))) 32))) - (IntKind.u64.wrap (o20 * (shlI .u64 a3 (IntKind.u64.wrap (v8))))))) (shrI .u64 (shlI .u64 a3 (IntKind.u64.wrap (v8))) 32))) * (shrI .u64 (shlI .u64 a3 (IntKind.u64.wrap (v8))) 32))))) (IntKind.u64.wrap (Int.tdiv (IntKind.u64.wrap ((IntKind.u64.wrap ((IntKind.u64.wrap ((orI .u64 (shlI .u64 a1 (IntKind.u64.wrap (v8))) (shrI .u64 a2 (IntKind.u64.wrap (64 - (IntKind.u64.wrap (v8)))))) * 4294967296)) + (shrI .u64 (shlI .u64 a2 (IntKind.u64.wrap (v8))) 32))) - (IntKind.u64.wrap (o20 * (shlI .u64 a3 (IntKind.u64.wrap (v8))))))) (shrI .u64 (shlI .u64 a3 (IntKind.u64.wrap (v8))) 32)))) (IP E a1 a2 a3 v8 o20 FUEL (IntKind.u64.wrap ((IntKind.u64.wrap ((IntKind.u64.wrap ((IntKind.u64.wrap ((orI .u64 (shlI .u64 a1 (IntKind.u64.wrap (v8))) (shrI .u64 a2 (IntKind.u64.wrap (64 - (IntKind.u64.wrap (v8)))))) * 4294967296)) + (shrI .u64 (shlI .u64 a2 (IntKind.u64.wrap (v8))) 32))) - (IntKind.u64.wrap (o20 * (shlI .u64 a3 (IntKind.u64.wrap (v8))))))) - (IntKind.u64.wrap ((IntKind.u64.wrap (Int.tdiv (IntKind.u64.wrap ((IntKind.u64.wrap ((IntKind.u64.wrap ((orI .u64 (shlI .u64 a1 (IntKind.u64.wrap (v8))) (shrI .u64 a2 (IntKind.u64.wrap (64 - (IntKind.u64.wrap (v8)))))) * 4294967296)) + (shrI .u64 (shlI .u64 a2 (IntKind.u64.wrap (v8))) 32))) - (IntKind.u64.wrap (o20 * (shlI .u64 a3 (IntKind.u64.wrap (v8))))))) (shrI .u64 (shlI .u64 a3 (IntKind.u64.wrap (v8))) 32))) * (shrI .u64 (shlI .u64 a3 (IntKind.u64.wrap (v8))) 32))))) (IntKind.u64.wrap (Int.tdiv (IntKind.u64.wrap ((IntKind.u64.wrap ((IntKind.u64.wrap ((orI .u64 (shlI .u64 a1 (IntKind.u64.wrap (v8))) (shrI .u64 a2 (IntKind.u64.wrap (64 - (IntKind.u64.wrap (v8)))))) * 4294967296)) + (shrI .u64 (shlI .u64 a2 (IntKind.u64.wrap (v8))) 32))) - (IntKind.u64.wrap (o20 * (shlI .u64 a3 (IntKind.u64.wrap (v8))))))) (shrI .u64 (shlI .u64 a3 (IntKind.u64.wrap (v8))) 32))) o29 h30)) ?_
    refine q_sq ?_
    refine q_vn [qd 13 (Dir.none) (IR g10)] 0 ⟨[(6, vc (.val (.int .u64 (IntKind.u64.wrap ((IntKind.u64.wrap (o20 * 4294967296)) + o29))))), (7, vc (.val (.int .u64 (shrI .u64 (IntKind.u64.wrap ((IntKind.u64.wrap ((IntKind.u64.wrap ((IntKind.u64.wrap ((IntKind.u64.wrap ((IntKind.u64.wrap ((orI .u64 (shlI .u64 a1 (IntKind.u64.wrap (v8))) (shrI .u64 a2 (IntKind.u64.wrap (64 - (IntKind.u64.wrap (v8)))))) * 4294967296)) + (shrI .u64 (shlI .u64 a2 (IntKind.u64.wrap (v8))) 32))) - (IntKind.u64.wrap (o20 * (shlI .u64 a3 (IntKind.u64.wrap (v8))))))) * 4294967296)) + (andI .u64 (shlI .u64 a2 (IntKind.u64.wrap (v8))) 4294967295))) - (IntKind.u64.wrap (o29 * (shlI .u64 a3 (IntKind.u64.wrap (v8))))))) (IntKind.u64.wrap (v8))))))], []⟩ ?_
    obtain rfl := Option.some.inj hm
    refine q_rt ?_
    exact q_rm
set_option maxRecDepth 100000
def qEp (r : Int × Int) : V := .tup [.one (ci r.1), .one (ci r.2)]
def qDN (r : Int × Int) : List (Nat × (Nat × O)) := []
def MS (x21 : Int) : St :=
 ⟨[(10, vc (.val (.int .u64 x21)))], []⟩
def LV (v12 : Int × Int) (x18 : Bool) : St :=
 ⟨[(10, vc (.val (.int .u64 v12.1))), (11, vc (.val (.int .u64 v12.2))), (52, vb x18)], []⟩
theorem qC5 (a1 : Int) (a2 : Int) (a3 : Int) (r : Int × Int) (hm : SG a1 a2 a3 = some r) : CtX Try.prog globs 28 0 0 [.one (ci a1), .one (ci a2), .one (ci a3)] [] (qEp r) (qDN r) := by
 unfold SG at hm
 refine q_E Try.f28 60 fun E => ?_
 refine q_sq ?_
 refine q_vn [] 0 ⟨[(0, vi a1), (1, vi a2), (2, vi a3)], []⟩ ?_
 refine q_sq ?_
 refine q_sq ?_
 refine q_vu [] 0 [] [(13, vb (decide (a3 ≤ 0)))] [] [] ?_
 refine q_cn (decide (a3 ≤ 0)) (fun b4 => ?_) (fun b4 => ?_)
 ·replace hm := qA b4 hm
  refine q_sq ?_
  refine q_vn [] 0 ⟨[(6, vi 0), (7, vi 9)], []⟩ ?_
  obtain rfl := Option.some.inj hm
  refine q_rt ?_
  exact q_rm
 ·replace hm := qB b4 hm
  refine q_sk ?_
  refine q_sq ?_
  obtain ⟨v5, h6, hm⟩ := qC hm
  obtain ⟨v7, h8, hm⟩ := qC hm
  obtain ⟨v9, h10, hm⟩ := qC hm
  refine q_vu [qc 1 [15] 0 (LK a1 v5 h6), qc 3 [17] 0 (LK a2 v7 h8), qc 4 [16, 18] 0 (qAP v5 v7 v9 h10)] 0 [13] [(8, vc (.val (.int .u64 v9.1))), (9, vc (.val (.int .u64 v9.2)))] [] [] ?_
  refine q_sq ?_
  refine q_sq ?_
  refine q_vu [] 0 [] [(25, vb (decide (v9.1 ≥ (IntKind.u64.wrap (a3)))))] [] [] ?_
  refine q_cn (decide (v9.1 ≥ (IntKind.u64.wrap (a3)))) (fun b11 => ?_) (fun b11 => ?_)
  ·replace hm := qA b11 hm
   refine q_sq ?_
   refine q_vn [] 0 ⟨[(6, vi 0), (7, vi 9)], []⟩ ?_
   obtain rfl := Option.some.inj hm
   refine q_rt ?_
   exact q_rm
  ·replace hm := qB b11 hm
   refine q_sk ?_
   refine q_sq ?_
   obtain ⟨v12, h13, hm⟩ := qC hm
   refine q_vu [qc 4 [27, 28, 30] 0 (qAq v9.1 v9.2 (IntKind.u64.wrap (a3)) v12 h13)] 0 [2, 8, 9, 25] [(10, vc (.val (.int .u64 v12.1))), (11, vc (.val (.int .u64 v12.2)))] [] [] ?_
   refine q_sq ?_
   refine q_sq ?_
   refine q_vu [] 0 [0, 1] [(38, vb ((decide (a1 < 0)) == (decide (a2 < 0))))] [] [] ?_
   refine q_cn ((decide (a1 < 0)) == (decide (a2 < 0))) (fun b14 => ?_) (fun b14 => ?_)
   ·replace hm := qA b14 hm
    refine q_sq ?_
    refine q_sq ?_
    refine q_vu [] 0 [11, 38] [(40, vb (decide (v12.1 > 9223372036854775807)))] [] [] ?_
    refine q_cn (decide (v12.1 > 9223372036854775807)) (fun b15 => ?_) (fun b15 => ?_)
    ·replace hm := qA b15 hm
     refine q_sq ?_
     refine q_vn [] 0 ⟨[(6, vi 0), (7, vi 9)], []⟩ ?_
     obtain rfl := Option.some.inj hm
     refine q_rt ?_
     exact q_rm
    ·replace hm := qB b15 hm
     refine q_sk ?_
     refine q_sq ?_
     refine q_vn [] 0 ⟨[(6, vi (w64 (v12.1))), (7, vi 0)], []⟩ ?_
     obtain rfl := Option.some.inj hm
     refine q_rt ?_
     exact q_rm
   ·replace hm := qB b14 hm
    refine q_sk ?_
    refine q_sq ?_
    refine q_jn (ι := Bool) (fun p => LV v12 p) (fun p => PV v12 p = some r) ?_ ?_
    ·rintro x18 hm
     show H _ (LV v12 x18) _ _
     refine q_cn x18 (fun b19 => ?_) (fun b19 => ?_)
     ·replace hm := qA b19 hm
      refine q_sq ?_
      refine q_vn [] 0 ⟨[(6, vi 0), (7, vi 9)], []⟩ ?_
      obtain rfl := Option.some.inj hm
      refine q_rt ?_
      exact q_rm
     ·replace hm := qB b19 hm
      refine q_sk ?_
      refine q_jn (ι := Int) (fun p => MS p) (fun p => BD p = some r) ?_ ?_
      ·rintro x21 hm
       show H _ (MS x21) _ _
       refine q_sq ?_
       refine q_vn [] 0 ⟨[(6, vi (w64 (IntKind.u64.wrap (0 - x21)))), (7, vi 0)], []⟩ ?_
       obtain rfl := Option.some.inj hm
       refine q_rt ?_
       exact q_rm
      ·refine q_sq ?_
       refine q_vu [] 0 [11, 52] [(54, vb (decide (v12.2 > 0)))] [] [] ?_
       refine q_cn (decide (v12.2 > 0)) (fun b20 => ?_) (fun b20 => ?_)
       ·replace hm := qA b20 hm
        refine q_vn [] 0 ⟨[(10, vc (.val (.int .u64 (IntKind.u64.wrap (v12.1 + 1)))))], []⟩ ?_
        exact q_J (IntKind.u64.wrap (v12.1 + 1)) hm
       ·replace hm := qB b20 hm
        refine q_sk ?_
        exact q_J (v12.1) hm
    ·rcases Bool.eq_false_or_eq_true (decide (v12.1 > 9223372036854775808)) with b16 | b16
     ·replace hm := qA b16 hm
      refine q_vu [qf 2 b16] 0 [38] [(52, vb true)] [] [] ?_
      exact q_J (true) hm
     ·replace hm := qB b16 hm
      rcases Bool.eq_false_or_eq_true (v12.1 == 9223372036854775808) with b17 | b17
      ·replace hm := qA b17 hm
       refine q_vu [qf 2 b16, qf 5 b17] 0 [38] [(52, vb (decide (v12.2 > 0)))] [] [] ?_
       exact q_J (decide (v12.2 > 0)) hm
      ·replace hm := qB b17 hm
       refine q_vu [qf 2 b16, qf 5 b17] 0 [38] [(52, vb false)] [] [] ?_
       exact q_J (false) hm
open Go.Proofs
set_option maxHeartbeats 4000000
set_option maxRecDepth 100000
def GL (r : Bool) : V := vb r
def GO (r : Bool) : List (Nat × (Nat × O)) := []
def NE (a1 : Yield) (x2 : Int) (x6 : Bool) : St :=
 ⟨[(1, vp 0 0), (13, va [ci a1.Log, ci a1.Boards, ci a1.Chips, ci a1.Dust]), (14, vi x2), (22, vb x6)], [(0, bx 41 (zM a1))]⟩
def PN (a1 : Yield) (x2 : Int) : St :=
 ⟨[(1, vp 0 0), (13, va [ci a1.Log, ci a1.Boards, ci a1.Chips, ci a1.Dust]), (14, vi x2)], [(0, bx 41 (zM a1))]⟩
def BY (a1 : Yield) : St :=
 ⟨[(1, vp 0 0)], [(0, bx 41 (zM a1))]⟩
theorem OH (E : Env 0) (a1 : Yield) : ∀ (n : Nat) (x2 : Int) (res : Bool ⊕ Unit), ZU a1 n x2 = some res → HL (kx E 35 0) (nd Try.f12 52) (yY 0 (fun o => BY a1) (fun v st => RetQ Try.prog Try.f12 (GL v) (GO v) .ret st) res) n (PN a1 x2) := by
 intro n
 induction n with
 | zero =>
  intro x2 res hm
  cases hm
 | succ n ih =>
  intro x2 res hm
  refine qU ?_
  refine q_sq ?_
  refine q_vu [] 1 [] [(15, vb (decide (x2 < 4)))] [] [] ?_
  refine q_sq ?_
  refine q_cn (decide (x2 < 4)) (fun b3 => ?_) (fun b3 => ?_)
  ·replace hm := qA b3 hm
   refine q_sk ?_
   refine q_sq ?_
   refine q_bk 1 ?_
   refine q_sq ?_
   obtain ⟨g4, hm⟩ := qQ hm
   refine q_vu [qd 0 (Dir.none) (inb_of g4)] 1 [15] [(4, vi (([a1.Log, a1.Boards, a1.Chips, a1.Dust] : List Int).getD x2.toNat 0))] [] [] ?_
   refine q_jn (ι := Bool) (fun p => NE a1 x2 p) (fun p => US x2 (ZU a1 n) p = some res) ?_ ?_
   ·rintro x6 hm
    show H _ (NE a1 x2 x6) _ _
    refine q_cn x6 (fun b7 => ?_) (fun b7 => ?_)
    ·replace hm := qA b7 hm
     refine q_sq ?_
     refine q_vn [] 1 ⟨[(2, vb false)], []⟩ ?_
     obtain rfl := Option.some.inj hm
     refine q_rt ?_
     refine zL false ?_
     exact q_rm
    ·replace hm := qB b7 hm
     refine q_sk ?_
     refine q_vu [] 1 [14, 22] [(14, vi (w64 (x2 + 1)))] [] [] ?_
     exact q_hl (PN a1 (w64 (x2 + 1))) (ih (w64 (x2 + 1)) _ hm)
   ·rcases Bool.eq_false_or_eq_true (decide ((([a1.Log, a1.Boards, a1.Chips, a1.Dust] : List Int).getD x2.toNat 0) < 0)) with b5 | b5
    ·replace hm := qA b5 hm
     refine q_vu [qf 2 b5] 1 [4] [(22, vb true)] [] [] ?_
     exact q_J (true) hm
    ·replace hm := qB b5 hm
     refine q_vu [qf 2 b5] 1 [4] [(22, vb (decide ((([a1.Log, a1.Boards, a1.Chips, a1.Dust] : List Int).getD x2.toNat 0) > 2305843009213693952)))] [] [] ?_
     exact q_J (decide ((([a1.Log, a1.Boards, a1.Chips, a1.Dust] : List Int).getD x2.toNat 0) > 2305843009213693952)) hm
  ·replace hm := qB b3 hm
   refine q_ex 0 ?_
   obtain rfl := Option.some.inj hm
   exact QW () (by kernel_rfl) (by kernel_rfl)
theorem UT (a1 : Yield) (r : Bool) (hm : TY a1 = some r) : CtX Try.prog globs 12 0 0 [.agg (zM a1)] [] (GL r) (GO r) := by
 unfold TY at hm
 refine q_E Try.f12 35 fun E => ?_
 refine q_sq ?_
 refine q_vn [] 0 ⟨[(1, vp 0 0)], [(0, bx 41 (zM a1))]⟩ ?_
 refine q_sq ?_
 refine q_sq ?_
 refine q_vu [] 1 [] [(13, va [ci a1.Log, ci a1.Boards, ci a1.Chips, ci a1.Dust]), (14, vi 0)] [] [] ?_
 obtain ⟨u10, h9, hm⟩ := qC hm
 refine wL (nd Try.f12 52) 0 (by kernel_rfl) FUEL (fun o => BY a1) (fun v st => RetQ Try.prog Try.f12 (GL v) (GO v) .ret st) u10 (q_hl (PN a1 0) (OH E a1 FUEL 0 u10 h9)) ?_ ?_
 ·rintro v11 rfl st hr
  obtain rfl := Option.some.inj hm
  exact hr
 ·rintro o8 rfl
  replace hm : _ = some r := hm
  refine q_sq ?_
  refine q_vn [] 1 ⟨[(2, vb (a1.Log == (w64 ((w64 (a1.Boards + a1.Chips)) + a1.Dust))))], []⟩ ?_
  obtain rfl := Option.some.inj hm
  refine q_rt ?_
  exact q_rm
def qB0 (r : Int) : V := vi r
def qCn (r : Int) : List (Nat × (Nat × O)) := []
def BX (a1 : Yield) (x5 : Bool) : St :=
 ⟨[(1, vp 0 0), (12, vb x5)], [(0, bx 41 (zM a1))]⟩
theorem MF (a1 : Yield) (r : Int) (hm : NF a1 = some r) : CtX Try.prog globs 14 0 0 [.agg (zM a1)] [] (qB0 r) (qCn r) := by
 unfold NF at hm
 refine q_E Try.f14 24 fun E => ?_
 refine q_sq ?_
 refine q_vn [] 0 ⟨[(1, vp 0 0)], [(0, bx 41 (zM a1))]⟩ ?_
 refine q_sq ?_
 refine q_jn (ι := Bool) (fun p => BX a1 p) (fun p => VB a1 p = some r) ?_ ?_
 ·rintro x5 hm
  show H _ (BX a1 x5) _ _
  refine q_cn x5 (fun b6 => ?_) (fun b6 => ?_)
  ·replace hm := qA b6 hm
   refine q_sq ?_
   refine q_vn [] 1 ⟨[(2, vi 0)], []⟩ ?_
   obtain rfl := Option.some.inj hm
   refine q_rt ?_
   exact q_rm
  ·replace hm := qB b6 hm
   refine q_sk ?_
   refine q_sq ?_
   obtain ⟨v7, h8, hm⟩ := qC hm
   refine q_vn [qk 4 [15, 17] 1 ⟨[(15, vi a1.Boards), (17, vi a1.Log)], []⟩ (qC5 1000 a1.Boards a1.Log v7 h8)] 1 ⟨[(3, vi v7.1), (4, vi v7.2)], []⟩ ?_
   refine q_sq ?_
   refine q_sq ?_
   refine q_vu [] 1 [4] [(22, vb (v7.2 != 0))] [] [] ?_
   refine q_cn (v7.2 != 0) (fun b9 => ?_) (fun b9 => ?_)
   ·replace hm := qA b9 hm
    refine q_sq ?_
    refine q_vn [] 1 ⟨[(2, vi 0)], []⟩ ?_
    obtain rfl := Option.some.inj hm
    refine q_rt ?_
    exact q_rm
   ·replace hm := qB b9 hm
    refine q_sk ?_
    refine q_sq ?_
    refine q_vn [] 1 ⟨[(2, vi v7.1)], []⟩ ?_
    obtain rfl := Option.some.inj hm
    refine q_rt ?_
    exact q_rm
 ·obtain ⟨v2, h3, hm⟩ := qC hm
  rcases Bool.eq_false_or_eq_true (!v2) with b4 | b4
  ·replace hm := qA b4 hm
   refine q_vu [qc 1 [5] 1 (UT a1 v2 h3), qf 3 b4] 1 [] [(12, vb true)] [] [] ?_
   exact q_J (true) hm
  ·replace hm := qB b4 hm
   refine q_vu [qc 1 [5] 1 (UT a1 v2 h3), qf 3 b4] 1 [] [(12, vb (a1.Log == 0))] [] [] ?_
   exact q_J (a1.Log == 0) hm
end Saw
end Go.SL
