import Derived.Test.YtjobdnkaonbgnaaGreatEBase
set_option linter.unusedVariables false
set_option linter.unusedSimpArgs false
namespace Go.SL
namespace Saw
open Go.Proofs
set_option maxHeartbeats 4000000
set_option maxRecDepth 100000
def qFJ (r : Int) : V := vc (.val (.int .u64 r))
def qFO (r : Int) : List (Nat × (Nat × O)) := []
theorem IU (a1 : Int) (r : Int) (hm : GI a1 = some r) : CtX Tryz.prog globs 54 0 0 [.one (ci a1)] [] (qFJ r) (qFO r) := by
 unfold GI at hm
 refine q_E Tryz.f54 10 fun E => ?_
 refine q_sq ?_
 refine q_vn [] 0 ⟨[(0, vi a1)], []⟩ ?_
 refine q_sq ?_
 refine q_sq ?_
 refine q_vu [] 0 [] [(4, vb (decide (a1 < 0)))] [] [] ?_
 refine q_cn (decide (a1 < 0)) (fun b2 => ?_) (fun b2 => ?_)
 ·replace hm := qC b2 hm
  refine q_sq ?_
  refine q_vn [] 0 ⟨[(2, vc (.val (.int .u64 (IntKind.u64.wrap (0 - (IntKind.u64.wrap (a1)))))))], []⟩ ?_
  obtain rfl := Option.some.inj hm
  refine q_rt ?_
  exact q_rm
 ·replace hm := qB b2 hm
  refine q_sk ?_
  refine q_sq ?_
  refine q_vn [] 0 ⟨[(2, vc (.val (.int .u64 (IntKind.u64.wrap (a1)))))], []⟩ ?_
  obtain rfl := Option.some.inj hm
  refine q_rt ?_
  exact q_rm
def qF1 (r : Int × Int) : V := .tup [.one (.val (.int .u64 r.1)), .one (.val (.int .u64 r.2))]
def qFy (r : Int × Int) : List (Nat × (Nat × O)) := []
theorem qES (a1 : Int) (a2 : Int) (r : Int × Int) (hm : SB a1 a2 = some r) : CtX Tryz.prog globs 53 0 0 [.one (.val (.int .u64 a1)), .one (.val (.int .u64 a2))] [] (qF1 r) (qFy r) := by
 unfold SB at hm
 refine q_E Tryz.f53 51 fun E => ?_
 refine q_sq ?_
 refine q_vn [] 0 ⟨[(0, vc (.val (.int .u64 a1))), (1, vc (.val (.int .u64 a2)))], []⟩ ?_
 refine q_sq ?_
 refine q_vu [] 0 [] [(6, vc (.val (.int .u64 (andI .u64 a1 4294967295))))] [] [] ?_
 refine q_sq ?_
 refine q_vu [qd 1 (Dir.none) (show ¬ (32 : Int) < 0 by decide)] 0 [] [(7, vc (.val (.int .u64 (shrI .u64 a1 32))))] [] [] ?_
 refine q_sq ?_
 refine q_vu [] 0 [] [(8, vc (.val (.int .u64 (andI .u64 a2 4294967295))))] [] [] ?_
 refine q_sq ?_
 refine q_vu [qd 1 (Dir.none) (show ¬ (32 : Int) < 0 by decide)] 0 [] [(9, vc (.val (.int .u64 (shrI .u64 a2 32))))] [] [] ?_
 refine q_sq ?_
 refine q_vu [] 0 [] [(10, vc (.val (.int .u64 (IntKind.u64.wrap ((andI .u64 a1 4294967295) * (andI .u64 a2 4294967295))))))] [] [] ?_
 refine q_sq ?_
 refine q_vu [qd 4 (Dir.none) (show ¬ (32 : Int) < 0 by decide)] 0 [8, 10] [(11, vc (.val (.int .u64 (IntKind.u64.wrap ((IntKind.u64.wrap ((shrI .u64 a1 32) * (andI .u64 a2 4294967295))) + (shrI .u64 (IntKind.u64.wrap ((andI .u64 a1 4294967295) * (andI .u64 a2 4294967295))) 32))))))] [] [] ?_
 refine q_sq ?_
 refine q_vu [] 0 [] [(12, vc (.val (.int .u64 (andI .u64 (IntKind.u64.wrap ((IntKind.u64.wrap ((shrI .u64 a1 32) * (andI .u64 a2 4294967295))) + (shrI .u64 (IntKind.u64.wrap ((andI .u64 a1 4294967295) * (andI .u64 a2 4294967295))) 32))) 4294967295))))] [] [] ?_
 refine q_sq ?_
 refine q_vu [qd 1 (Dir.none) (show ¬ (32 : Int) < 0 by decide)] 0 [11] [(13, vc (.val (.int .u64 (shrI .u64 (IntKind.u64.wrap ((IntKind.u64.wrap ((shrI .u64 a1 32) * (andI .u64 a2 4294967295))) + (shrI .u64 (IntKind.u64.wrap ((andI .u64 a1 4294967295) * (andI .u64 a2 4294967295))) 32))) 32))))] [] [] ?_
 refine q_sq ?_
 refine q_vu [] 0 [6, 12] [(12, vc (.val (.int .u64 (IntKind.u64.wrap ((andI .u64 (IntKind.u64.wrap ((IntKind.u64.wrap ((shrI .u64 a1 32) * (andI .u64 a2 4294967295))) + (shrI .u64 (IntKind.u64.wrap ((andI .u64 a1 4294967295) * (andI .u64 a2 4294967295))) 32))) 4294967295) + (IntKind.u64.wrap ((andI .u64 a1 4294967295) * (shrI .u64 a2 32))))))))] [] [] ?_
 refine q_sq ?_
 refine q_vu [qd 6 (Dir.none) (show ¬ (32 : Int) < 0 by decide)] 0 [7, 9, 12, 13] [(4, vc (.val (.int .u64 (IntKind.u64.wrap ((IntKind.u64.wrap ((IntKind.u64.wrap ((shrI .u64 a1 32) * (shrI .u64 a2 32))) + (shrI .u64 (IntKind.u64.wrap ((IntKind.u64.wrap ((shrI .u64 a1 32) * (andI .u64 a2 4294967295))) + (shrI .u64 (IntKind.u64.wrap ((andI .u64 a1 4294967295) * (andI .u64 a2 4294967295))) 32))) 32))) + (shrI .u64 (IntKind.u64.wrap ((andI .u64 (IntKind.u64.wrap ((IntKind.u64.wrap ((shrI .u64 a1 32) * (andI .u64 a2 4294967295))) + (shrI .u64 (IntKind.u64.wrap ((andI .u64 a1 4294967295) * (andI .u64 a2 4294967295))) 32))) 4294967295) + (IntKind.u64.wrap ((andI .u64 a1 4294967295) * (shrI .u64 a2 32))))) 32))))))] [] [] ?_
 refine q_sq ?_
 refine q_vu [] 0 [0, 1] [(5, vc (.val (.int .u64 (IntKind.u64.wrap (a1 * a2)))))] [] [] ?_
 obtain rfl := Option.some.inj hm
 refine q_rt ?_
 exact q_rm
set_option maxRecDepth 100000
def qFX (r : Int) : V := vi r
def qFG (r : Int) : List (Nat × (Nat × O)) := []
def EI (x9 : Int) (x10 : Int) : St :=
 ⟨[(0, vc (.val (.int .u64 x9))), (2, vi x10)], []⟩
def HZ (x6 : Int) (x7 : Int) : St :=
 ⟨[(0, vc (.val (.int .u64 x6))), (2, vi x7)], []⟩
def EM (x3 : Int) (x4 : Int) : St :=
 ⟨[(0, vc (.val (.int .u64 x3))), (2, vi x4)], []⟩
theorem qEZ (a1 : Int) (r : Int) (hm : SX a1 = some r) : CtX Tryz.prog globs 126 0 0 [.one (.val (.int .u64 a1))] [] (qFX r) (qFG r) := by
 unfold SX at hm
 refine q_E Tryz.f126 25 fun E => ?_
 refine q_sq ?_
 refine q_vn [] 0 ⟨[(0, vc (.val (.int .u64 a1))), (2, vi 0)], []⟩ ?_
 refine q_jn (ι := Int × Int) (fun p => EM p.1 p.2) (fun p => DP p.1 p.2 = some r) ?_ ?_
 ·rintro ⟨x3, x4⟩ hm
  show H _ (EM x3 x4) _ _
  refine q_jn (ι := Int × Int) (fun p => HZ p.1 p.2) (fun p => DL p.1 p.2 = some r) ?_ ?_
  ·rintro ⟨x6, x7⟩ hm
   show H _ (HZ x6 x7) _ _
   refine q_jn (ι := Int × Int) (fun p => EI p.1 p.2) (fun p => DV p.1 p.2 = some r) ?_ ?_
   ·rintro ⟨x9, x10⟩ hm
    show H _ (EI x9 x10) _ _
    refine q_sq ?_
    obtain ⟨g11, hm⟩ := qL hm
    refine q_vn [qd 3 (Dir.none) (inb_of g11)] 0 ⟨[(2, vi (w64 (x10 + (w64 (strAt (ByteArray.mk #[0, 1, 2, 2, 3, 3, 3, 3, 4, 4, 4, 4, 4, 4, 4, 4, 5, 5, 5, 5, 5, 5, 5, 5, 5, 5, 5, 5, 5, 5, 5, 5, 6, 6, 6, 6, 6, 6, 6, 6, 6, 6, 6, 6, 6, 6, 6, 6, 6, 6, 6, 6, 6, 6, 6, 6, 6, 6, 6, 6, 6, 6, 6, 6, 7, 7, 7, 7, 7, 7, 7, 7, 7, 7, 7, 7, 7, 7, 7, 7, 7, 7, 7, 7, 7, 7, 7, 7, 7, 7, 7, 7, 7, 7, 7, 7, 7, 7, 7, 7, 7, 7, 7, 7, 7, 7, 7, 7, 7, 7, 7, 7, 7, 7, 7, 7, 7, 7, 7, 7, 7, 7, 7, 7, 7, 7, 7, 7, 8, 8, 8, 8, 8, 8, 8, 8, 8, 8, 8, 8, 8, 8, 8, 8, 8, 8, 8, 8, 8, 8, 8, 8, 8, 8, 8, 8, 8, 8, 8, 8, 8, 8, 8, 8, 8, 8, 8, 8, 8, 8, 8, 8, 8, 8, 8, 8, 8, 8, 8, 8, 8, 8, 8, 8, 8, 8, 8, 8, 8, 8, 8, 8, 8, 8, 8, 8, 8, 8, 8, 8, 8, 8, 8, 8, 8, 8, 8, 8, 8, 8, 8, 8, 8, 8, 8, 8, 8, 8, 8, 8, 8, 8, 8, 8, 8, 8, 8, 8, 8, 8, 8, 8, 8, 8, 8, 8, 8, 8, 8, 8, 8, 8, 8, 8, 8, 8, 8, 8, 8, 8, 8, 8, 8, 8, 8, 8]) ((IntKind.u8.wrap (x9)).toNat))))))], []⟩ ?_
    obtain rfl := Option.some.inj hm
    refine q_rt ?_
    exact q_rm
   ·refine q_sq ?_
    refine q_vu [] 0 [] [(14, vb (decide (x6 ≥ 256)))] [] [] ?_
    refine q_cn (decide (x6 ≥ 256)) (fun b8 => ?_) (fun b8 => ?_)
    ·replace hm := qC b8 hm
     refine q_sq ?_
     refine q_vu [qd 1 (Dir.none) (show ¬ (8 : Int) < 0 by decide)] 0 [0, 14] [(0, vc (.val (.int .u64 (shrI .u64 x6 8))))] [] [] ?_
     refine q_vu [] 0 [2] [(2, vi (w64 (x7 + 8)))] [] [] ?_
     exact q_J (shrI .u64 x6 8, w64 (x7 + 8)) hm
    ·replace hm := qB b8 hm
     refine q_sk ?_
     exact q_J (x6, x7) hm
  ·refine q_sq ?_
   refine q_vu [] 0 [] [(8, vb (decide (x3 ≥ 65536)))] [] [] ?_
   refine q_cn (decide (x3 ≥ 65536)) (fun b5 => ?_) (fun b5 => ?_)
   ·replace hm := qC b5 hm
    refine q_sq ?_
    refine q_vu [qd 1 (Dir.none) (show ¬ (16 : Int) < 0 by decide)] 0 [0, 8] [(0, vc (.val (.int .u64 (shrI .u64 x3 16))))] [] [] ?_
    refine q_vu [] 0 [2] [(2, vi (w64 (x4 + 16)))] [] [] ?_
    exact q_J (shrI .u64 x3 16, w64 (x4 + 16)) hm
   ·replace hm := qB b5 hm
    refine q_sk ?_
    exact q_J (x3, x4) hm
 ·refine q_sq ?_
  refine q_vu [] 0 [] [(4, vb (decide (a1 ≥ 4294967296)))] [] [] ?_
  refine q_cn (decide (a1 ≥ 4294967296)) (fun b2 => ?_) (fun b2 => ?_)
  ·replace hm := qC b2 hm
   refine q_sq ?_
   refine q_vn [qd 1 (Dir.none) (show ¬ (32 : Int) < 0 by decide)] 0 ⟨[(0, vc (.val (.int .u64 (shrI .u64 a1 32))))], []⟩ ?_
   refine q_vu [] 0 [] [(2, vi 32)] [] [] ?_
   exact q_J (shrI .u64 a1 32, 32) hm
  ·replace hm := qB b2 hm
   refine q_sk ?_
   exact q_J (a1, 0) hm
open Go.Proofs
set_option maxHeartbeats 4000000
set_option maxRecDepth 100000
def OV (r : Int) : V := vi r
def OY (r : Int) : List (Nat × (Nat × O)) := []
theorem OB (a1 : Int) (r : Int) (hm : YV a1 = some r) : CtX Tryz.prog globs 92 0 0 [.one (.val (.int .u64 a1))] [] (OV r) (OY r) := by
 unfold YV at hm
 refine q_E Tryz.f92 6 fun E => ?_
 refine q_sq ?_
 refine q_vn [] 0 ⟨[(0, vc (.val (.int .u64 a1)))], []⟩ ?_
 refine q_sq ?_
 obtain ⟨v2, h3, hm⟩ := qD hm
 refine q_vn [qc 1 [3] 0 (qEZ a1 v2 h3)] 0 ⟨[(2, vi (w64 (64 - v2)))], []⟩ ?_
 obtain rfl := Option.some.inj hm
 refine q_rt ?_
 exact q_rm
def qFT (r : Int × Int) : V := .tup [.one (.val (.int .u64 r.1)), .one (.val (.int .u64 r.2))]
def qFQ (r : Int × Int) : List (Nat × (Nat × O)) := []
def SH (a1 : Int) (a2 : Int) (a3 : Int) (v8 : Int) (x13 : Int) (x14 : Int) (x16 : Bool) : St :=
 ⟨[(2, vc (.val (.int .u64 (shlI .u64 a3 (IntKind.u64.wrap (v8)))))), (8, vc (.val (.int .u64 (IntKind.u64.wrap (v8))))), (9, vc (.val (.int .u64 (shrI .u64 (shlI .u64 a3 (IntKind.u64.wrap (v8))) 32)))), (10, vc (.val (.int .u64 (andI .u64 (shlI .u64 a3 (IntKind.u64.wrap (v8))) 4294967295)))), (11, vc (.val (.int .u64 (orI .u64 (shlI .u64 a1 (IntKind.u64.wrap (v8))) (shrI .u64 a2 (IntKind.u64.wrap (64 - (IntKind.u64.wrap (v8))))))))), (13, vc (.val (.int .u64 (shrI .u64 (shlI .u64 a2 (IntKind.u64.wrap (v8))) 32)))), (14, vc (.val (.int .u64 (andI .u64 (shlI .u64 a2 (IntKind.u64.wrap (v8))) 4294967295)))), (15, vc (.val (.int .u64 x13))), (16, vc (.val (.int .u64 x14))), (78, vb x16)], []⟩
def TK (a1 : Int) (a2 : Int) (a3 : Int) (v8 : Int) (x13 : Int) (x14 : Int) : St :=
 ⟨[(2, vc (.val (.int .u64 (shlI .u64 a3 (IntKind.u64.wrap (v8)))))), (8, vc (.val (.int .u64 (IntKind.u64.wrap (v8))))), (9, vc (.val (.int .u64 (shrI .u64 (shlI .u64 a3 (IntKind.u64.wrap (v8))) 32)))), (10, vc (.val (.int .u64 (andI .u64 (shlI .u64 a3 (IntKind.u64.wrap (v8))) 4294967295)))), (11, vc (.val (.int .u64 (orI .u64 (shlI .u64 a1 (IntKind.u64.wrap (v8))) (shrI .u64 a2 (IntKind.u64.wrap (64 - (IntKind.u64.wrap (v8))))))))), (13, vc (.val (.int .u64 (shrI .u64 (shlI .u64 a2 (IntKind.u64.wrap (v8))) 32)))), (14, vc (.val (.int .u64 (andI .u64 (shlI .u64 a2 (IntKind.u64.wrap (v8))) 4294967295)))), (15, vc (.val (.int .u64 x13))), (16, vc (.val (.int .u64 x14)))], []⟩
def SU (a1 : Int) (a2 : Int) (a3 : Int) (v8 : Int) (x19 : Int) : St :=
 ⟨[(2, vc (.val (.int .u64 (shlI .u64 a3 (IntKind.u64.wrap (v8)))))), (8, vc (.val (.int .u64 (IntKind.u64.wrap (v8))))), (9, vc (.val (.int .u64 (shrI .u64 (shlI .u64 a3 (IntKind.u64.wrap (v8))) 32)))), (10, vc (.val (.int .u64 (andI .u64 (shlI .u64 a3 (IntKind.u64.wrap (v8))) 4294967295)))), (11, vc (.val (.int .u64 (orI .u64 (shlI .u64 a1 (IntKind.u64.wrap (v8))) (shrI .u64 a2 (IntKind.u64.wrap (64 - (IntKind.u64.wrap (v8))))))))), (13, vc (.val (.int .u64 (shrI .u64 (shlI .u64 a2 (IntKind.u64.wrap (v8))) 32)))), (14, vc (.val (.int .u64 (andI .u64 (shlI .u64 a2 (IntKind.u64.wrap (v8))) 4294967295)))), (15, vc (.val (.int .u64 x19)))], []⟩
def SK (a1 : Int) (a2 : Int) (a3 : Int) (v8 : Int) (o20 : Int) (x22 : Int) (x23 : Int) (x25 : Bool) : St :=
 ⟨[(2, vc (.val (.int .u64 (shlI .u64 a3 (IntKind.u64.wrap (v8)))))), (8, vc (.val (.int .u64 (IntKind.u64.wrap (v8))))), (9, vc (.val (.int .u64 (shrI .u64 (shlI .u64 a3 (IntKind.u64.wrap (v8))) 32)))), (10, vc (.val (.int .u64 (andI .u64 (shlI .u64 a3 (IntKind.u64.wrap (v8))) 4294967295)))), (14, vc (.val (.int .u64 (andI .u64 (shlI .u64 a2 (IntKind.u64.wrap (v8))) 4294967295)))), (15, vc (.val (.int .u64 o20))), (16, vc (.val (.int .u64 x22))), (17, vc (.val (.int .u64 (IntKind.u64.wrap ((IntKind.u64.wrap ((IntKind.u64.wrap ((orI .u64 (shlI .u64 a1 (IntKind.u64.wrap (v8))) (shrI .u64 a2 (IntKind.u64.wrap (64 - (IntKind.u64.wrap (v8)))))) * 4294967296)) + (shrI .u64 (shlI .u64 a2 (IntKind.u64.wrap (v8))) 32))) - (IntKind.u64.wrap (o20 * (shlI .u64 a3 (IntKind.u64.wrap (v8)))))))))), (18, vc (.val (.int .u64 x23))), (113, vb x25)], []⟩
def TT (a1 : Int) (a2 : Int) (a3 : Int) (v8 : Int) (o20 : Int) (x22 : Int) (x23 : Int) : St :=
 ⟨[(2, vc (.val (.int .u64 (shlI .u64 a3 (IntKind.u64.wrap (v8)))))), (8, vc (.val (.int .u64 (IntKind.u64.wrap (v8))))), (9, vc (.val (.int .u64 (shrI .u64 (shlI .u64 a3 (IntKind.u64.wrap (v8))) 32)))), (10, vc (.val (.int .u64 (andI .u64 (shlI .u64 a3 (IntKind.u64.wrap (v8))) 4294967295)))), (14, vc (.val (.int .u64 (andI .u64 (shlI .u64 a2 (IntKind.u64.wrap (v8))) 4294967295)))), (15, vc (.val (.int .u64 o20))), (16, vc (.val (.int .u64 x22))), (17, vc (.val (.int .u64 (IntKind.u64.wrap ((IntKind.u64.wrap ((IntKind.u64.wrap ((orI .u64 (shlI .u64 a1 (IntKind.u64.wrap (v8))) (shrI .u64 a2 (IntKind.u64.wrap (64 - (IntKind.u64.wrap (v8)))))) * 4294967296)) + (shrI .u64 (shlI .u64 a2 (IntKind.u64.wrap (v8))) 32))) - (IntKind.u64.wrap (o20 * (shlI .u64 a3 (IntKind.u64.wrap (v8)))))))))), (18, vc (.val (.int .u64 x23)))], []⟩
def HT (a1 : Int) (a2 : Int) (a3 : Int) (v8 : Int) (o20 : Int) (x28 : Int) : St :=
 ⟨[(2, vc (.val (.int .u64 (shlI .u64 a3 (IntKind.u64.wrap (v8)))))), (8, vc (.val (.int .u64 (IntKind.u64.wrap (v8))))), (14, vc (.val (.int .u64 (andI .u64 (shlI .u64 a2 (IntKind.u64.wrap (v8))) 4294967295)))), (15, vc (.val (.int .u64 o20))), (17, vc (.val (.int .u64 (IntKind.u64.wrap ((IntKind.u64.wrap ((IntKind.u64.wrap ((orI .u64 (shlI .u64 a1 (IntKind.u64.wrap (v8))) (shrI .u64 a2 (IntKind.u64.wrap (64 - (IntKind.u64.wrap (v8)))))) * 4294967296)) + (shrI .u64 (shlI .u64 a2 (IntKind.u64.wrap (v8))) 32))) - (IntKind.u64.wrap (o20 * (shlI .u64 a3 (IntKind.u64.wrap (v8)))))))))), (18, vc (.val (.int .u64 x28)))], []⟩
theorem qDa (E : Env 0) (a1 : Int) (a2 : Int) (a3 : Int) (v8 : Int) : ∀ (n : Nat) (x13 : Int) (x14 : Int) (res : Int), WJ a2 a3 v8 n x13 x14 = some res → HL (kx E 135 0) (nd Tryz.f55 262136) (wE 0 (fun o => SU a1 a2 a3 v8 o) res) n (TK a1 a2 a3 v8 x13 x14) := by
 intro n
 induction n with
 | zero =>
  intro x13 x14 res hm
  cases hm
 | succ n ih =>
  intro x13 x14 res hm
  refine qR ?_
  refine q_sq ?_
  refine q_jn (ι := Bool) (fun p => SH a1 a2 a3 v8 x13 x14 p) (fun p => DE a3 v8 x13 x14 (WJ a2 a3 v8 n) p = some res) ?_ ?_
  ·rintro x16 hm
   show H _ (SH a1 a2 a3 v8 x13 x14 x16) _ _
   refine q_cn x16 (fun b17 => ?_) (fun b17 => ?_)
   ·replace hm := qC b17 hm
    refine q_sk ?_
    refine q_bk 1 ?_
    refine q_sq ?_
    refine q_vu [] 0 [15, 78] [(15, vc (.val (.int .u64 (IntKind.u64.wrap (x13 - 1)))))] [] [] ?_
    refine q_sq ?_
    refine q_vu [] 0 [16] [(16, vc (.val (.int .u64 (IntKind.u64.wrap (x14 + (shrI .u64 (shlI .u64 a3 (IntKind.u64.wrap (v8))) 32))))))] [] [] ?_
    refine q_sq ?_
    refine q_vu [] 0 [] [(85, vb (decide ((IntKind.u64.wrap (x14 + (shrI .u64 (shlI .u64 a3 (IntKind.u64.wrap (v8))) 32))) ≥ 4294967296)))] [] [] ?_
    refine q_cn (decide ((IntKind.u64.wrap (x14 + (shrI .u64 (shlI .u64 a3 (IntKind.u64.wrap (v8))) 32))) ≥ 4294967296)) (fun b18 => ?_) (fun b18 => ?_)
    ·replace hm := qC b18 hm
     refine q_ex 0 ?_
     obtain rfl := Option.some.inj hm
     exact jL (by kernel_rfl) (by kernel_rfl)
    ·replace hm := qB b18 hm
     refine q_sk ?_
     exact q_hl (TK a1 a2 a3 v8 (IntKind.u64.wrap (x13 - 1)) (IntKind.u64.wrap (x14 + (shrI .u64 (shlI .u64 a3 (IntKind.u64.wrap (v8))) 32)))) (ih (IntKind.u64.wrap (x13 - 1)) (IntKind.u64.wrap (x14 + (shrI .u64 (shlI .u64 a3 (IntKind.u64.wrap (v8))) 32))) _ hm)
   ·replace hm := qB b17 hm
    refine q_ex 0 ?_
    obtain rfl := Option.some.inj hm
    exact jL (by kernel_rfl) (by kernel_rfl)
  ·rcases Bool.eq_false_or_eq_true (decide (x13 ≥ 4294967296)) with b15 | b15
   ·replace hm := qC b15 hm
    refine q_vu [qf 2 b15] 0 [] [(78, vb true)] [] [] ?_
    exact q_J (true) hm
   ·replace hm := qB b15 hm
    refine q_vu [qf 2 b15] 0 [] [(78, vb (decide ((IntKind.u64.wrap (x13 * (andI .u64 (shlI .u64 a3 (IntKind.u64.wrap (v8))) 4294967295))) > (IntKind.u64.wrap ((IntKind.u64.wrap (4294967296 * x14)) + (shrI .u64 (shlI .u64 a2 (IntKind.u64.wrap (v8))) 32))))))] [] [] ?_
    exact q_J (decide ((IntKind.u64.wrap (x13 * (andI .u64 (shlI .u64 a3 (IntKind.u64.wrap (v8))) 4294967295))) > (IntKind.u64.wrap ((IntKind.u64.wrap (4294967296 * x14)) + (shrI .u64 (shlI .u64 a2 (IntKind.u64.wrap (v8))) 32))))) hm
theorem qC6 (E : Env 0) (a1 : Int) (a2 : Int) (a3 : Int) (v8 : Int) (o20 : Int) : ∀ (n : Nat) (x22 : Int) (x23 : Int) (res : Int), WI a2 a3 v8 n x22 x23 = some res → HL (kx E 135 0) (nd Tryz.f55 4194296) (wE 2 (fun o => HT a1 a2 a3 v8 o20 o) res) n (TT a1 a2 a3 v8 o20 x22 x23) := by
 intro n
 induction n with
 | zero =>
  intro x22 x23 res hm
  cases hm
 | succ n ih =>
  intro x22 x23 res hm
  refine qR ?_
  refine q_sq ?_
  refine q_jn (ι := Bool) (fun p => SK a1 a2 a3 v8 o20 x22 x23 p) (fun p => DC a3 v8 x22 x23 (WI a2 a3 v8 n) p = some res) ?_ ?_
  ·rintro x25 hm
   show H _ (SK a1 a2 a3 v8 o20 x22 x23 x25) _ _
   refine q_cn x25 (fun b26 => ?_) (fun b26 => ?_)
   ·replace hm := qC b26 hm
    refine q_sk ?_
    refine q_bk 3 ?_
    refine q_sq ?_
    refine q_vu [] 0 [18, 113] [(18, vc (.val (.int .u64 (IntKind.u64.wrap (x23 - 1)))))] [] [] ?_
    refine q_sq ?_
    refine q_vu [] 0 [16] [(16, vc (.val (.int .u64 (IntKind.u64.wrap (x22 + (shrI .u64 (shlI .u64 a3 (IntKind.u64.wrap (v8))) 32))))))] [] [] ?_
    refine q_sq ?_
    refine q_vu [] 0 [] [(120, vb (decide ((IntKind.u64.wrap (x22 + (shrI .u64 (shlI .u64 a3 (IntKind.u64.wrap (v8))) 32))) ≥ 4294967296)))] [] [] ?_
    refine q_cn (decide ((IntKind.u64.wrap (x22 + (shrI .u64 (shlI .u64 a3 (IntKind.u64.wrap (v8))) 32))) ≥ 4294967296)) (fun b27 => ?_) (fun b27 => ?_)
    ·replace hm := qC b27 hm
     refine q_ex 2 ?_
     obtain rfl := Option.some.inj hm
     exact jL (by kernel_rfl) (by kernel_rfl)
    ·replace hm := qB b27 hm
     refine q_sk ?_
     exact q_hl (TT a1 a2 a3 v8 o20 (IntKind.u64.wrap (x22 + (shrI .u64 (shlI .u64 a3 (IntKind.u64.wrap (v8))) 32))) (IntKind.u64.wrap (x23 - 1))) (ih (IntKind.u64.wrap (x22 + (shrI .u64 (shlI .u64 a3 (IntKind.u64.wrap (v8))) 32))) (IntKind.u64.wrap (x23 - 1)) _ hm)
   ·replace hm := qB b26 hm
    refine q_ex 2 ?_
    obtain rfl := Option.some.inj hm
    exact jL (by kernel_rfl) (by kernel_rfl)
  ·rcases Bool.eq_false_or_eq_true (decide (x23 ≥ 4294967296)) with b24 | b24
   ·replace hm := qC b24 hm
    refine q_vu [qf 2 b24] 0 [] [(113, vb true)] [] [] ?_
    exact q_J (true) hm
   ·replace hm := qB b24 hm
    refine q_vu [qf 2 b24] 0 [] [(113, vb (decide ((IntKind.u64.wrap (x23 * (andI .u64 (shlI .u64 a3 (IntKind.u64.wrap (v8))) 4294967295))) > (IntKind.u64.wrap ((IntKind.u64.wrap (4294967296 * x22)) + (andI .u64 (shlI .u64 a2 (IntKind.u64.wrap (v8))) 4294967295))))))] [] [] ?_
    exact q_J (decide ((IntKind.u64.wrap (x23 * (andI .u64 (shlI .u64 a3 (IntKind.u64.wrap (v8))) 4294967295))) > (IntKind.u64.wrap ((IntKind.u64.wrap (4294967296 * x22)) + (andI .u64 (shlI .u64 a2 (IntKind.u64.wrap (v8))) 4294967295))))) hm
theorem qFi (a1 : Int) (a2 : Int) (a3 : Int) (r : Int × Int) (hm : SA a1 a2 a3 = some r) : CtX Tryz.prog globs 55 0 0 [.one (.val (.int .u64 a1)), .one (.val (.int .u64 a2)), .one (.val (.int .u64 a3))] [] (qFT r) (qFQ r) := by
 unfold SA at hm
 refine q_E Tryz.f55 135 fun E => ?_
 refine q_sq ?_
 refine q_vn [] 0 ⟨[(0, vc (.val (.int .u64 a1))), (1, vc (.val (.int .u64 a2))), (2, vc (.val (.int .u64 a3)))], []⟩ ?_
 refine q_sq ?_
 refine q_sq ?_
 refine q_vu [] 0 [] [(20, vb (a3 == 0))] [] [] ?_
 refine q_cn (a3 == 0) (fun b4 => ?_) (fun b4 => ?_)
 ·replace hm := qC b4 hm
  cases hm
 ·replace hm := qB b4 hm
  refine q_sk ?_
  refine q_sq ?_
  refine q_sq ?_
  refine q_vu [] 0 [20] [(24, vb (decide (a3 ≤ a1)))] [] [] ?_
  refine q_cn (decide (a3 ≤ a1)) (fun b5 => ?_) (fun b5 => ?_)
  ·replace hm := qC b5 hm
   cases hm
  ·replace hm := qB b5 hm
   refine q_sk ?_
   refine q_sq ?_
   refine q_sq ?_
   refine q_vu [] 0 [24] [(27, vb (a1 == 0))] [] [] ?_
   refine q_cn (a1 == 0) (fun b6 => ?_) (fun b6 => ?_)
   ·replace hm := qC b6 hm
    refine q_sq ?_
    obtain ⟨g7, hm⟩ := qL hm
    refine q_dn [qd 2 (Dir.none) (qDF g7), qd 5 (Dir.none) (qDF g7)] [0, 0, 3, 0, 0, 24, 7, 127] 0 ⟨[(6, vc (.val (.int .u64 (IntKind.u64.wrap (Int.tdiv a2 a3))))), (7, vc (.val (.int .u64 (Int.tmod a2 a3))))], []⟩ ?_
    obtain rfl := Option.some.inj hm
    refine q_rt ?_
    exact q_rm
   ·replace hm := qB b6 hm
    refine q_sk ?_
    refine q_sq ?_
    obtain ⟨v8, h9, hm⟩ := qD hm
    refine q_vu [qc 1 [34] 0 (OB a3 v8 h9)] 0 [27] [(8, vc (.val (.int .u64 (IntKind.u64.wrap (v8)))))] [] [] ?_
    refine q_sq ?_
    obtain ⟨g10, hm⟩ := qL hm
    refine q_vu [qd 2 (Dir.none) (qC3 g10)] 0 [2] [(2, vc (.val (.int .u64 (shlI .u64 a3 (IntKind.u64.wrap (v8))))))] [] [] ?_
    refine q_sq ?_
    refine q_vu [qd 1 (Dir.none) (show ¬ (32 : Int) < 0 by decide)] 0 [] [(9, vc (.val (.int .u64 (shrI .u64 (shlI .u64 a3 (IntKind.u64.wrap (v8))) 32))))] [] [] ?_
    refine q_sq ?_
    refine q_vu [] 0 [] [(10, vc (.val (.int .u64 (andI .u64 (shlI .u64 a3 (IntKind.u64.wrap (v8))) 4294967295))))] [] [] ?_
    refine q_sq ?_
    obtain ⟨g11, hm⟩ := qL hm
    refine q_vu [qd 2 (Dir.none) (qC3 g10), qd 6 (Dir.none) (qC3 g11)] 0 [0] [(11, vc (.val (.int .u64 (orI .u64 (shlI .u64 a1 (IntKind.u64.wrap (v8))) (shrI .u64 a2 (IntKind.u64.wrap (64 - (IntKind.u64.wrap (v8)))))))))] [] [] ?_
    refine q_sq ?_
    refine q_vu [qd 2 (Dir.none) (qC3 g10)] 0 [1] [(12, vc (.val (.int .u64 (shlI .u64 a2 (IntKind.u64.wrap (v8))))))] [] [] ?_
    refine q_sq ?_
    refine q_vu [qd 1 (Dir.none) (show ¬ (32 : Int) < 0 by decide)] 0 [] [(13, vc (.val (.int .u64 (shrI .u64 (shlI .u64 a2 (IntKind.u64.wrap (v8))) 32))))] [] [] ?_
    refine q_sq ?_
    refine q_vu [] 0 [12] [(14, vc (.val (.int .u64 (andI .u64 (shlI .u64 a2 (IntKind.u64.wrap (v8))) 4294967295))))] [] [] ?_
    refine q_sq ?_
    obtain ⟨g12, hm⟩ := qL hm
    refine q_vu [qd 2 (Dir.none) (qDF g12)] 0 [] [(15, vc (.val (.int .u64 (IntKind.u64.wrap (Int.tdiv (orI .u64 (shlI .u64 a1 (IntKind.u64.wrap (v8))) (shrI .u64 a2 (IntKind.u64.wrap (64 - (IntKind.u64.wrap (v8)))))) (shrI .u64 (shlI .u64 a3 (IntKind.u64.wrap (v8))) 32))))))] [] [] ?_
    refine q_sq ?_
    refine q_vu [] 0 [] [(16, vc (.val (.int .u64 (IntKind.u64.wrap ((orI .u64 (shlI .u64 a1 (IntKind.u64.wrap (v8))) (shrI .u64 a2 (IntKind.u64.wrap (64 - (IntKind.u64.wrap (v8)))))) - (IntKind.u64.wrap ((IntKind.u64.wrap (Int.tdiv (orI .u64 (shlI .u64 a1 (IntKind.u64.wrap (v8))) (shrI .u64 a2 (IntKind.u64.wrap (64 - (IntKind.u64.wrap (v8)))))) (shrI .u64 (shlI .u64 a3 (IntKind.u64.wrap (v8))) 32))) * (shrI .u64 (shlI .u64 a3 (IntKind.u64.wrap (v8))) 32))))))))] [] [] ?_
    refine q_sq ?_
    obtain ⟨o20, h21, hm⟩ := qD hm
    refine zX (nd Tryz.f55 262136) 0 (by kernel_rfl) FUEL (fun o => SU a1 a2 a3 v8 o) o20 (q_hl (TK a1 a2 a3 v8 (IntKind.u64.wrap (Int.tdiv (orI .u64 (shlI .u64 a1 (IntKind.u64.wrap (v8))) (shrI .u64 a2 (IntKind.u64.wrap (64 - (IntKind.u64.wrap (v8)))))) (shrI .u64 (shlI .u64 a3 (IntKind.u64.wrap (v8))) 32))) (IntKind.u64.wrap ((orI .u64 (shlI .u64 a1 (IntKind.u64.wrap (v8))) (shrI .u64 a2 (IntKind.u64.wrap (64 - (IntKind.u64.wrap (v8)))))) - (IntKind.u64.wrap ((IntKind.u64.wrap (Int.tdiv (orI .u64 (shlI .u64 a1 (IntKind.u64.wrap (v8))) (shrI .u64 a2 (IntKind.u64.wrap (64 - (IntKind.u64.wrap (v8)))))) (shrI .u64 (shlI .u64 a3 (IntKind.u64.wrap (v8))) 32))) * (shrI .u64 (shlI .u64 a3 (IntKind.u64.wrap (v8))) 32)))))) (qDa E a1 a2 a3 v8 FUEL (IntKind.u64.wrap (Int.tdiv (orI .u64 (shlI .u64 a1 (IntKind.u64.wrap (v8))) (shrI .u64 a2 (IntKind.u64.wrap (64 - (IntKind.u64.wrap (v8)))))) (shrI .u64 (shlI .u64 a3 (IntKind.u64.wrap (v8))) 32))) (IntKind.u64.wrap ((orI .u64 (shlI .u64 a1 (IntKind.u64.wrap (v8))) (shrI .u64 a2 (IntKind.u64.wrap (64 - (IntKind.u64.wrap (v8)))))) - (IntKind.u64.wrap ((IntKind.u64.wrap (Int.tdiv (orI .u64 (shlI .u64 a1 (IntKind.u64.wrap (v8))) (shrI .u64 a2 (IntKind.u64.wrap (64 - (IntKind.u64.wrap (v8)))))) (shrI .u64 (shlI .u64 a3 (IntKind.u64.wrap (v8))) 32))) * (shrI .u64 (shlI .u64 a3 (IntKind.u64.wrap (v8))) 32))))) o20 h21)) ?_
    refine q_sq ?_
    refine q_vu [] 0 [11, 13] [(17, vc (.val (.int .u64 (IntKind.u64.wrap ((IntKind.u64.wrap ((IntKind.u64.wrap ((orI .u64 (shlI .u64 a1 (IntKind.u64.wrap (v8))) (shrI .u64 a2 (IntKind.u64.wrap (64 - (IntKind.u64.wrap (v8)))))) * 4294967296)) + (shrI .u64 (shlI .u64 a2 (IntKind.u64.wrap (v8))) 32))) - (IntKind.u64.wrap (o20 * (shlI .u64 a3 (IntKind.u64.wrap (v8))))))))))] [] [] ?_
    refine q_sq ?_
    refine q_vu [qd 2 (Dir.none) (qDF g12)] 0 [] [(18, vc (.val (.int .u64 (IntKind.u64.wrap (Int.tdiv (IntKind.u64.wrap ((IntKind.u64.wrap ((IntKind.u64.wrap ((orI .u64 (shlI .u64 a1 (IntKind.u64.wrap (v8))) (shrI .u64 a2 (IntKind.u64.wrap (64 - (IntKind.u64.wrap (v8)))))) * 4294967296)) + (shrI .u64 (shlI .u64 a2 (IntKind.u64.wrap (v8))) 32))) - (IntKind.u64.wrap (o20 * (shlI .u64 a3 (IntKind.u64.wrap (v8))))))) (shrI .u64 (shlI .u64 a3 (IntKind.u64.wrap (v8))) 32))))))] [] [] ?_
    refine q_sq ?_
    refine q_vu [] 0 [] [(16, vc (.val (.int .u64 (IntKind.u64.wrap ((IntKind.u64.wrap ((IntKind.u64.wrap ((IntKind.u64.wrap ((orI .u64 (shlI .u64 a1 (IntKind.u64.wrap (v8))) (shrI .u64 a2 (IntKind.u64.wrap (64 - (IntKind.u64.wrap (v8)))))) * 4294967296)) + (shrI .u64 (shlI .u64 a2 (IntKind.u64.wrap (v8))) 32))) - (IntKind.u64.wrap (o20 * (shlI .u64 a3 (IntKind.u64.wrap (v8))))))) - (IntKind.u64.wrap ((IntKind.u64.wrap (Int.tdiv (IntKind.u64.wrap ((IntKind.u64.wrap ((IntKind.u64.wrap ((orI .u64 (shlI .u64 a1 (IntKind.u64.wrap (v8))) (shrI .u64 a2 (IntKind.u64.wrap (64 - (IntKind.u64.wrap (v8)))))) * 4294967296)) + (shrI .u64 (shlI .u64 a2 (IntKind.u64.wrap (v8))) 32))) - (IntKind.u64.wrap (o20 * (shlI .u64 a3 (IntKind.u64.wrap (v8))))))) (shrI .u64 (shlI .u64 a3 (IntKind.u64.wrap (v8))) 32))) * (shrI .u64 (shlI .u64 a3 (IntKind.u64.wrap (v8))) 32))))))))] [] [] ?_
    refine q_sq ?_
    obtain ⟨o29, h30, hm⟩ := qD hm
    refine zX (nd Tryz.f55 4194296) 2 (by kernel_rfl) FUEL (fun o => HT a1 a2 a3 v8 o20 o) o29 (q_hl (TT a1 a2 a3 v8 o20 (IntKind.u64.wrap ((IntKind.u64.wrap ((IntKind.u64.wrap ((IntKind.u64.wrap ((orI .u64 (shlI .u64 a1 (IntKind.u64.wrap (v8))) (shrI .u64 a2 (IntKind.u64.wrap (64 - (IntKind.u64.wrap (v8)))))) * 4294967296)) + (shrI .u64 (shlI .u64 a2 (IntKind.u64.wrap (v8))) 32))) - (IntKind.u64.wrap (o20 * (shlI .u64 a3 (IntKind.u64.wrap (v8))))))) - (IntKind.u64.wrap ((IntKind.u64.wrap (Int.tdiv (IntKind.u64.wrap ((IntKind.u64.wrap ((IntKind.u64.wrap ((orI .u64 (shlI .u64 a1 (IntKind.u64.wrap (v8))) (shrI .u64 a2 (IntKind.u64.wrap (64 - (IntKind.u64.wrap (v8)))))) * 4294967296)) + (shrI .u64 (shlI .u64 a2 (IntKind.u64.wrap (v8))) 32))) - (IntKind.u64.wrap (o20 * (shlI .u64 a3 (IntKind.u64.wrap (v8))))))) (shrI .u64 (shlI .u64 a3 (IntKind.u64.wrap (v8))) 32))) * (shrI .u64 (shlI .u64 a3 (IntKind.u64.wrap (v8))) 32))))) (IntKind.u64.wrap (Int.tdiv (IntKind.u64.wrap ((IntKind.u64.wrap ((IntKind.u64.wrap ((orI .u64 (shlI .u64 a1 (IntKind.u64.wrap (v8))) (shrI .u64 a2 (IntKind.u64.wrap (64 - (IntKind.u64.wrap (v8)))))) * 4294967296)) + (shrI .u64 (shlI .u64 a2 (IntKind.u64.wrap (v8))) 32))) - (IntKind.u64.wrap (o20 * (shlI .u64 a3 (IntKind.u64.wrap (v8))))))) (shrI .u64 (shlI .u64 a3 (IntKind.u64.wrap (v8))) 32)))) (qC6 E a1 a2 a3 v8 o20 FUEL (IntKind.u64.wrap ((IntKind.u64.wrap ((IntKind.u64.wrap ((IntKind.u64.wrap ((orI .u64 (shlI .u64 a1 (IntKind.u64.wrap (v8))) (shrI .u64 a2 (IntKind.u64.wrap (64 - (IntKind.u64.wrap (v8)))))) * 4294967296)) + (shrI .u64 (shlI .u64 a2 (IntKind.u64.wrap (v8))) 32))) - (IntKind.u64.wrap (o20 * (shlI .u64 a3 (IntKind.u64.wrap (v8))))))) - (IntKind.u64.wrap ((IntKind.u64.wrap (Int.tdiv (IntKind.u64.wrap ((IntKind.u64.wrap ((IntKind.u64.wrap ((orI .u64 (shlI .u64 a1 (IntKind.u64.wrap (v8))) (shrI .u64 a2 (IntKind.u64.wrap (64 - (IntKind.u64.wrap (v8)))))) * 4294967296)) + (shrI .u64 (shlI .u64 a2 (IntKind.u64.wrap (v8))) 32))) - (IntKind.u64.wrap (o20 * (shlI .u64 a3 (IntKind.u64.wrap (v8))))))) (shrI .u64 (shlI .u64 a3 (IntKind.u64.wrap (v8))) 32))) * (shrI .u64 (shlI .u64 a3 (IntKind.u64.wrap (v8))) 32))))) (IntKind.u64.wrap (Int.tdiv (IntKind.u64.wrap ((IntKind.u64.wrap ((IntKind.u64.wrap ((orI .u64 (shlI .u64 a1 (IntKind.u64.wrap (v8))) (shrI .u64 a2 (IntKind.u64.wrap (64 - (IntKind.u64.wrap (v8)))))) * 4294967296)) + (shrI .u64 (shlI .u64 a2 (IntKind.u64.wrap (v8))) 32))) - (IntKind.u64.wrap (o20 * (shlI .u64 a3 (IntKind.u64.wrap (v8))))))) (shrI .u64 (shlI .u64 a3 (IntKind.u64.wrap (v8))) 32))) o29 h30)) ?_
    refine q_sq ?_
    refine q_vn [qd 13 (Dir.none) (qC3 g10)] 0 ⟨[(6, vc (.val (.int .u64 (IntKind.u64.wrap ((IntKind.u64.wrap (o20 * 4294967296)) + o29))))), (7, vc (.val (.int .u64 (shrI .u64 (IntKind.u64.wrap ((IntKind.u64.wrap ((IntKind.u64.wrap ((IntKind.u64.wrap ((IntKind.u64.wrap ((IntKind.u64.wrap ((orI .u64 (shlI .u64 a1 (IntKind.u64.wrap (v8))) (shrI .u64 a2 (IntKind.u64.wrap (64 - (IntKind.u64.wrap (v8)))))) * 4294967296)) + (shrI .u64 (shlI .u64 a2 (IntKind.u64.wrap (v8))) 32))) - (IntKind.u64.wrap (o20 * (shlI .u64 a3 (IntKind.u64.wrap (v8))))))) * 4294967296)) + (andI .u64 (shlI .u64 a2 (IntKind.u64.wrap (v8))) 4294967295))) - (IntKind.u64.wrap (o29 * (shlI .u64 a3 (IntKind.u64.wrap (v8))))))) (IntKind.u64.wrap (v8))))))], []⟩ ?_
    obtain rfl := Option.some.inj hm
    refine q_rt ?_
    exact q_rm
set_option maxRecDepth 100000
def qJl (r : Int × Int) : V := .tup [.one (ci r.1), .one (ci r.2)]
def qIH (r : Int × Int) : List (Nat × (Nat × O)) := []
def CV (x21 : Int) : St :=
 ⟨[(10, vc (.val (.int .u64 x21)))], []⟩
def CQ (v12 : Int × Int) (x18 : Bool) : St :=
 ⟨[(10, vc (.val (.int .u64 v12.1))), (11, vc (.val (.int .u64 v12.2))), (52, vb x18)], []⟩
theorem qG7 (a1 : Int) (a2 : Int) (a3 : Int) (r : Int × Int) (hm : qBy a1 a2 a3 = some r) : CtX Tryz.prog globs 29 0 0 [.one (ci a1), .one (ci a2), .one (ci a3)] [] (qJl r) (qIH r) := by
 unfold qBy at hm
 refine q_E Tryz.f29 60 fun E => ?_
 refine q_sq ?_
 refine q_vn [] 0 ⟨[(0, vi a1), (1, vi a2), (2, vi a3)], []⟩ ?_
 refine q_sq ?_
 refine q_sq ?_
 refine q_vu [] 0 [] [(13, vb (decide (a3 ≤ 0)))] [] [] ?_
 refine q_cn (decide (a3 ≤ 0)) (fun b4 => ?_) (fun b4 => ?_)
 ·replace hm := qC b4 hm
  refine q_sq ?_
  refine q_vn [] 0 ⟨[(6, vi 0), (7, vi 9)], []⟩ ?_
  obtain rfl := Option.some.inj hm
  refine q_rt ?_
  exact q_rm
 ·replace hm := qB b4 hm
  refine q_sk ?_
  refine q_sq ?_
  obtain ⟨v5, h6, hm⟩ := qD hm
  obtain ⟨v7, h8, hm⟩ := qD hm
  obtain ⟨v9, h10, hm⟩ := qD hm
  refine q_vu [qc 1 [15] 0 (IU a1 v5 h6), qc 3 [17] 0 (IU a2 v7 h8), qc 4 [16, 18] 0 (qES v5 v7 v9 h10)] 0 [13] [(8, vc (.val (.int .u64 v9.1))), (9, vc (.val (.int .u64 v9.2)))] [] [] ?_
  refine q_sq ?_
  refine q_sq ?_
  refine q_vu [] 0 [] [(25, vb (decide (v9.1 ≥ (IntKind.u64.wrap (a3)))))] [] [] ?_
  refine q_cn (decide (v9.1 ≥ (IntKind.u64.wrap (a3)))) (fun b11 => ?_) (fun b11 => ?_)
  ·replace hm := qC b11 hm
   refine q_sq ?_
   refine q_vn [] 0 ⟨[(6, vi 0), (7, vi 9)], []⟩ ?_
   obtain rfl := Option.some.inj hm
   refine q_rt ?_
   exact q_rm
  ·replace hm := qB b11 hm
   refine q_sk ?_
   refine q_sq ?_
   obtain ⟨v12, h13, hm⟩ := qD hm
   refine q_vu [qc 4 [27, 28, 30] 0 (qFi v9.1 v9.2 (IntKind.u64.wrap (a3)) v12 h13)] 0 [2, 8, 9, 25] [(10, vc (.val (.int .u64 v12.1))), (11, vc (.val (.int .u64 v12.2)))] [] [] ?_
   refine q_sq ?_
   refine q_sq ?_
   refine q_vu [] 0 [0, 1] [(38, vb ((decide (a1 < 0)) == (decide (a2 < 0))))] [] [] ?_
   refine q_cn ((decide (a1 < 0)) == (decide (a2 < 0))) (fun b14 => ?_) (fun b14 => ?_)
   ·replace hm := qC b14 hm
    refine q_sq ?_
    refine q_sq ?_
    refine q_vu [] 0 [11, 38] [(40, vb (decide (v12.1 > 9223372036854775807)))] [] [] ?_
    refine q_cn (decide (v12.1 > 9223372036854775807)) (fun b15 => ?_) (fun b15 => ?_)
    ·replace hm := qC b15 hm
     refine q_sq ?_
     refine q_vn [] 0 ⟨[(6, vi 0), (7, vi 9)], []⟩ ?_
     obtain rfl := Option.some.inj hm
     refine q_rt ?_
     exact q_rm
    ·replace hm := qB b15 hm
     refine q_sk ?_
     refine q_sq ?_
     refine q_vn [] 0 ⟨[(6, vi (w64 (v12.1))), (7, vi 0)], []⟩ ?_
     obtain rfl := Option.some.inj hm
     refine q_rt ?_
     exact q_rm
   ·replace hm := qB b14 hm
    refine q_sk ?_
    refine q_sq ?_
    refine q_jn (ι := Bool) (fun p => CQ v12 p) (fun p => VN v12 p = some r) ?_ ?_
    ·rintro x18 hm
     show H _ (CQ v12 x18) _ _
     refine q_cn x18 (fun b19 => ?_) (fun b19 => ?_)
     ·replace hm := qC b19 hm
      refine q_sq ?_
      refine q_vn [] 0 ⟨[(6, vi 0), (7, vi 9)], []⟩ ?_
      obtain rfl := Option.some.inj hm
      refine q_rt ?_
      exact q_rm
     ·replace hm := qB b19 hm
      refine q_sk ?_
      refine q_jn (ι := Int) (fun p => CV p) (fun p => SV p = some r) ?_ ?_
      ·rintro x21 hm
       show H _ (CV x21) _ _
       refine q_sq ?_
       refine q_vn [] 0 ⟨[(6, vi (w64 (IntKind.u64.wrap (0 - x21)))), (7, vi 0)], []⟩ ?_
       obtain rfl := Option.some.inj hm
       refine q_rt ?_
       exact q_rm
      ·refine q_sq ?_
       refine q_vu [] 0 [11, 52] [(54, vb (decide (v12.2 > 0)))] [] [] ?_
       refine q_cn (decide (v12.2 > 0)) (fun b20 => ?_) (fun b20 => ?_)
       ·replace hm := qC b20 hm
        refine q_vn [] 0 ⟨[(10, vc (.val (.int .u64 (IntKind.u64.wrap (v12.1 + 1)))))], []⟩ ?_
        exact q_J (IntKind.u64.wrap (v12.1 + 1)) hm
       ·replace hm := qB b20 hm
        refine q_sk ?_
        exact q_J (v12.1) hm
    ·rcases Bool.eq_false_or_eq_true (decide (v12.1 > 9223372036854775808)) with b16 | b16
     ·replace hm := qC b16 hm
      refine q_vu [qf 2 b16] 0 [38] [(52, vb true)] [] [] ?_
      exact q_J (true) hm
     ·replace hm := qB b16 hm
      rcases Bool.eq_false_or_eq_true (v12.1 == 9223372036854775808) with b17 | b17
      ·replace hm := qC b17 hm
       refine q_vu [qf 2 b16, qf 5 b17] 0 [38] [(52, vb (decide (v12.2 > 0)))] [] [] ?_
       exact q_J (decide (v12.2 > 0)) hm
      ·replace hm := qB b17 hm
       refine q_vu [qf 2 b16, qf 5 b17] 0 [38] [(52, vb false)] [] [] ?_
       exact q_J (false) hm
open Go.Proofs
set_option maxHeartbeats 4000000
set_option maxRecDepth 100000
def MP (r : Bool) : V := vb r
def MI (r : Bool) : List (Nat × (Nat × O)) := []
def EO (a1 : Yield) (x2 : Int) (x6 : Bool) : St :=
 ⟨[(1, vp 0 0), (13, va [ci a1.Log, ci a1.Boards, ci a1.Chips, ci a1.Dust]), (14, vi x2), (22, vb x6)], [(0, bx 50 (jM a1))]⟩
def VI (a1 : Yield) (x2 : Int) : St :=
 ⟨[(1, vp 0 0), (13, va [ci a1.Log, ci a1.Boards, ci a1.Chips, ci a1.Dust]), (14, vi x2)], [(0, bx 50 (jM a1))]⟩
def EU (a1 : Yield) : St :=
 ⟨[(1, vp 0 0)], [(0, bx 50 (jM a1))]⟩
theorem qDr (E : Env 0) (a1 : Yield) : ∀ (n : Nat) (x2 : Int) (res : Bool ⊕ Unit), JH a1 n x2 = some res → HL (kx E 35 0) (nd Tryz.f16 52) (wI 0 (fun o => EU a1) (fun v st => RetQ Tryz.prog Tryz.f16 (MP v) (MI v) .ret st) res) n (VI a1 x2) := by
 intro n
 induction n with
 | zero =>
  intro x2 res hm
  cases hm
 | succ n ih =>
  intro x2 res hm
  refine qR ?_
  refine q_sq ?_
  refine q_vu [] 1 [] [(15, vb (decide (x2 < 4)))] [] [] ?_
  refine q_sq ?_
  refine q_cn (decide (x2 < 4)) (fun b3 => ?_) (fun b3 => ?_)
  ·replace hm := qC b3 hm
   refine q_sk ?_
   refine q_sq ?_
   refine q_bk 1 ?_
   refine q_sq ?_
   obtain ⟨g4, hm⟩ := qL hm
   refine q_vu [qd 0 (Dir.none) (inb_of g4)] 1 [15] [(4, vi (([a1.Log, a1.Boards, a1.Chips, a1.Dust] : List Int).getD x2.toNat 0))] [] [] ?_
   refine q_jn (ι := Bool) (fun p => EO a1 x2 p) (fun p => FG x2 (JH a1 n) p = some res) ?_ ?_
   ·rintro x6 hm
    show H _ (EO a1 x2 x6) _ _
    refine q_cn x6 (fun b7 => ?_) (fun b7 => ?_)
    ·replace hm := qC b7 hm
     refine q_sq ?_
     refine q_vn [] 1 ⟨[(2, vb false)], []⟩ ?_
     obtain rfl := Option.some.inj hm
     refine q_rt ?_
     refine qY false ?_
     exact q_rm
    ·replace hm := qB b7 hm
     refine q_sk ?_
     refine q_vu [] 1 [14, 22] [(14, vi (w64 (x2 + 1)))] [] [] ?_
     exact q_hl (VI a1 (w64 (x2 + 1))) (ih (w64 (x2 + 1)) _ hm)
   ·rcases Bool.eq_false_or_eq_true (decide ((([a1.Log, a1.Boards, a1.Chips, a1.Dust] : List Int).getD x2.toNat 0) < 0)) with b5 | b5
    ·replace hm := qC b5 hm
     refine q_vu [qf 2 b5] 1 [4] [(22, vb true)] [] [] ?_
     exact q_J (true) hm
    ·replace hm := qB b5 hm
     refine q_vu [qf 2 b5] 1 [4] [(22, vb (decide ((([a1.Log, a1.Boards, a1.Chips, a1.Dust] : List Int).getD x2.toNat 0) > 2305843009213693952)))] [] [] ?_
     exact q_J (decide ((([a1.Log, a1.Boards, a1.Chips, a1.Dust] : List Int).getD x2.toNat 0) > 2305843009213693952)) hm
  ·replace hm := qB b3 hm
   refine q_ex 0 ?_
   obtain rfl := Option.some.inj hm
   exact wJ () (by kernel_rfl) (by kernel_rfl)
theorem FM (a1 : Yield) (r : Bool) (hm : BX a1 = some r) : CtX Tryz.prog globs 16 0 0 [.agg (jM a1)] [] (MP r) (MI r) := by
 unfold BX at hm
 refine q_E Tryz.f16 35 fun E => ?_
 refine q_sq ?_
 refine q_vn [] 0 ⟨[(1, vp 0 0)], [(0, bx 50 (jM a1))]⟩ ?_
 refine q_sq ?_
 refine q_sq ?_
 refine q_vu [] 1 [] [(13, va [ci a1.Log, ci a1.Boards, ci a1.Chips, ci a1.Dust]), (14, vi 0)] [] [] ?_
 obtain ⟨u10, h9, hm⟩ := qD hm
 refine zM (nd Tryz.f16 52) 0 (by kernel_rfl) FUEL (fun o => EU a1) (fun v st => RetQ Tryz.prog Tryz.f16 (MP v) (MI v) .ret st) u10 (q_hl (VI a1 0) (qDr E a1 FUEL 0 u10 h9)) ?_ ?_
 ·rintro v11 rfl st hr
  obtain rfl := Option.some.inj hm
  exact hr
 ·rintro o8 rfl
  replace hm : _ = some r := hm
  refine q_sq ?_
  refine q_vn [] 1 ⟨[(2, vb (a1.Log == (w64 ((w64 (a1.Boards + a1.Chips)) + a1.Dust))))], []⟩ ?_
  obtain rfl := Option.some.inj hm
  refine q_rt ?_
  exact q_rm
def qGU (r : Int) : V := vi r
def qGW (r : Int) : List (Nat × (Nat × O)) := []
def ES (a1 : Yield) (x5 : Bool) : St :=
 ⟨[(1, vp 0 0), (12, vb x5)], [(0, bx 50 (jM a1))]⟩
theorem qAq (a1 : Yield) (r : Int) (hm : AI a1 = some r) : CtX Tryz.prog globs 15 0 0 [.agg (jM a1)] [] (qGU r) (qGW r) := by
 unfold AI at hm
 refine q_E Tryz.f15 24 fun E => ?_
 refine q_sq ?_
 refine q_vn [] 0 ⟨[(1, vp 0 0)], [(0, bx 50 (jM a1))]⟩ ?_
 refine q_sq ?_
 refine q_jn (ι := Bool) (fun p => ES a1 p) (fun p => NW a1 p = some r) ?_ ?_
 ·rintro x5 hm
  show H _ (ES a1 x5) _ _
  refine q_cn x5 (fun b6 => ?_) (fun b6 => ?_)
  ·replace hm := qC b6 hm
   refine q_sq ?_
   refine q_vn [] 1 ⟨[(2, vi 0)], []⟩ ?_
   obtain rfl := Option.some.inj hm
   refine q_rt ?_
   exact q_rm
  ·replace hm := qB b6 hm
   refine q_sk ?_
   refine q_sq ?_
   obtain ⟨v7, h8, hm⟩ := qD hm
   refine q_vn [qk 4 [15, 17] 1 ⟨[(15, vi a1.Boards), (17, vi a1.Log)], []⟩ (qG7 1000 a1.Boards a1.Log v7 h8)] 1 ⟨[(3, vi v7.1), (4, vi v7.2)], []⟩ ?_
   refine q_sq ?_
   refine q_sq ?_
   refine q_vu [] 1 [4] [(22, vb (v7.2 != 0))] [] [] ?_
   refine q_cn (v7.2 != 0) (fun b9 => ?_) (fun b9 => ?_)
   ·replace hm := qC b9 hm
    refine q_sq ?_
    refine q_vn [] 1 ⟨[(2, vi 0)], []⟩ ?_
    obtain rfl := Option.some.inj hm
    refine q_rt ?_
    exact q_rm
   ·replace hm := qB b9 hm
    refine q_sk ?_
    refine q_sq ?_
    refine q_vn [] 1 ⟨[(2, vi v7.1)], []⟩ ?_
    obtain rfl := Option.some.inj hm
    refine q_rt ?_
    exact q_rm
 ·obtain ⟨v2, h3, hm⟩ := qD hm
  rcases Bool.eq_false_or_eq_true (!v2) with b4 | b4
  ·replace hm := qC b4 hm
   refine q_vu [qc 1 [5] 1 (FM a1 v2 h3), qf 3 b4] 1 [] [(12, vb true)] [] [] ?_
   exact q_J (true) hm
  ·replace hm := qB b4 hm
   refine q_vu [qc 1 [5] 1 (FM a1 v2 h3), qf 3 b4] 1 [] [(12, vb (a1.Log == 0))] [] [] ?_
   exact q_J (a1.Log == 0) hm
set_option maxRecDepth 100000
def qMk (r : Span) : V := va (e_Span r)
def qLX (r : Span) : List (Nat × (Nat × O)) := []
theorem OT (a1 : Span) (a2 : Span) (r : Span) (hm : TJ a1 a2 = some r) : CtX Tryz.prog globs 136 0 0 [.agg (e_Span a1), .agg (e_Span a2)] [] (qMk r) (qLX r) := by
 unfold TJ at hm
 refine q_E Tryz.f136 24 fun E => ?_
 refine q_sq ?_
 refine q_vn [] 0 ⟨[(2, vp 0 0), (3, vp 1 0), (4, vp 2 0)], [(0, bx 26 (e_Span a1)), (1, bx 26 (e_Span a2)), (2, bx 26 [ci 0, ci 0])]⟩ ?_
 refine q_sq ?_
 refine q_vu [] 3 [2, 3] [(5, vp 3 0)] [0, 1] [(3, bx 26 [ci (imax a1.A a2.A), ci (imin a1.B a2.B)])] ?_
 refine q_sq ?_
 refine q_sq ?_
 refine q_vu [] 4 [] [(21, vb (decide ((imax a1.A a2.A) ≥ (imin a1.B a2.B))))] [] [] ?_
 refine q_cn (decide ((imax a1.A a2.A) ≥ (imin a1.B a2.B))) (fun b3 => ?_) (fun b3 => ?_)
 ·replace hm := qC b3 hm
  refine q_sq ?_
  refine q_vu [] 4 [5, 21] [] [3] [] ?_
  obtain rfl := Option.some.inj hm
  refine q_rt ?_
  exact q_rm
 ·replace hm := qB b3 hm
  refine q_sk ?_
  refine q_sq ?_
  refine q_vn [] 4 ⟨[(4, vp 2 0)], [(2, bx 26 [ci (imax a1.A a2.A), ci (imin a1.B a2.B)])]⟩ ?_
  obtain rfl := Option.some.inj hm
  refine q_rt ?_
  exact q_rm
open Go.Proofs
set_option maxHeartbeats 4000000
set_option maxRecDepth 100000
def qMF (r : Box) : V := va (zG r)
def qMP (r : Box) : List (Nat × (Nat × O)) := []
theorem qKx (a1 : Box) (a2 : Box) (r : Box) (hm : qAx a1 a2 = some r) : CtX Tryz.prog globs 118 0 0 [.agg (zG a1), .agg (zG a2)] [] (qMF r) (qMP r) := by
 unfold qAx at hm
 refine q_E Tryz.f118 21 fun E => ?_
 refine q_sq ?_
 refine q_vn [] 0 ⟨[(2, vp 0 0), (3, vp 1 0), (4, vp 2 0)], [(0, bx 67 (zG a1)), (1, bx 67 (zG a2)), (2, bx 67 [ci 0, ci 0, ci 0, ci 0, ci 0, ci 0])]⟩ ?_
 refine q_sq ?_
 obtain ⟨v3, h4, hm⟩ := qD hm
 obtain ⟨v5, h6, hm⟩ := qD hm
 obtain ⟨v7, h8, hm⟩ := qD hm
 refine q_dn [qc 4 [6, 8] 3 (OT a1.X a2.X v3 h4), qc 9 [11, 13] 3 (OT a1.Y a2.Y v5 h6), qc 14 [16, 18] 3 (OT a1.Z a2.Z v7 h8)] [0, 1, 0, 4, 15, 0, 32, 0, 128, 511, 0, 1024, 0, 4096, 16383, 32767, 65535] 3 ⟨[(4, vp 2 0)], [(2, bx 67 [ci v3.A, ci v3.B, ci v5.A, ci v5.B, ci v7.A, ci v7.B])]⟩ ?_
 obtain rfl := Option.some.inj hm
 refine q_rt ?_
 exact q_rm
def qKU (r : Bool) : V := vb r
def qKR (r : Bool) : List (Nat × (Nat × O)) := []
def qBn (x4 : Bool) : St :=
 ⟨[(2, vb x4)], []⟩
theorem qDq (a1 : Box) (r : Bool) (hm : UV a1 = some r) : CtX Tryz.prog globs 70 0 0 [.agg (zG a1)] [] (qKU r) (qKR r) := by
 unfold UV at hm
 refine q_E Tryz.f70 28 fun E => ?_
 refine q_sq ?_
 refine q_vn [] 0 ⟨[(1, vp 0 0)], [(0, bx 67 (zG a1))]⟩ ?_
 refine q_jn (ι := Bool) (fun p => qBn p) (fun p => PT p = some r) ?_ ?_
 ·rintro x4 hm
  show H _ (qBn x4) _ _
  obtain rfl := Option.some.inj hm
  refine q_rt ?_
  exact q_rm
 ·rcases Bool.eq_false_or_eq_true (decide (a1.X.A ≥ a1.X.B)) with b2 | b2
  ·replace hm := qC b2 hm
   refine q_vn [qf 7 b2] 1 ⟨[(2, vb true)], []⟩ ?_
   exact q_J (true) hm
  ·replace hm := qB b2 hm
   rcases Bool.eq_false_or_eq_true (decide (a1.Y.A ≥ a1.Y.B)) with b3 | b3
   ·replace hm := qC b3 hm
    refine q_vn [qf 7 b2, qf 16 b3] 1 ⟨[(2, vb true)], []⟩ ?_
    exact q_J (true) hm
   ·replace hm := qB b3 hm
    refine q_vn [qf 7 b2, qf 16 b3] 1 ⟨[(2, vb (decide (a1.Z.A ≥ a1.Z.B)))], []⟩ ?_
    exact q_J (decide (a1.Z.A ≥ a1.Z.B)) hm
set_option maxRecDepth 100000
def qHJ (r : Bool) : V := vb r
def qH7 (r : Bool) : List (Nat × (Nat × O)) := []
theorem qAT (a1 : Defect) (a2 : Box) (r : Bool) (hm : XR a1 a2 = some r) : CtX Tryz.prog globs 79 0 0 [.agg (qH a1), .agg (zG a2)] [] (qHJ r) (qH7 r) := by
 unfold XR at hm
 refine q_E Tryz.f79 11 fun E => ?_
 refine q_sq ?_
 refine q_vn [] 0 ⟨[(2, vp 0 0), (3, vp 1 0)], [(0, bx 135 (qH a1)), (1, bx 67 (zG a2))]⟩ ?_
 refine q_sq ?_
 obtain ⟨v3, h4, hm⟩ := qD hm
 obtain ⟨v5, h6, hm⟩ := qD hm
 refine q_vn [qc 3 [6, 7] 2 (qKx a1.Box a2 v3 h4), qc 4 [8] 2 (qDq v3 v5 h6)] 2 ⟨[(4, vb (!v5))], []⟩ ?_
 obtain rfl := Option.some.inj hm
 refine q_rt ?_
 exact q_rm
open Go.Proofs
set_option maxHeartbeats 4000000
set_option maxRecDepth 100000
def qIo (r : Bool) : V := vb r
def qIL (r : Bool) : List (Nat × (Nat × O)) := []
def qAk (x4 : Bool) : St :=
 ⟨[(2, vb x4)], []⟩
theorem jK (a1 : Span) (r : Bool) (hm : RF a1 = some r) : CtX Tryz.prog globs 117 0 0 [.agg (e_Span a1)] [] (qIo r) (qIL r) := by
 unfold RF at hm
 refine q_E Tryz.f117 18 fun E => ?_
 refine q_sq ?_
 refine q_vn [] 0 ⟨[(1, vp 0 0)], [(0, bx 26 (e_Span a1))]⟩ ?_
 refine q_jn (ι := Bool) (fun p => qAk p) (fun p => KG p = some r) ?_ ?_
 ·rintro x4 hm
  show H _ (qAk x4) _ _
  obtain rfl := Option.some.inj hm
  refine q_rt ?_
  exact q_rm
 ·rcases Bool.eq_false_or_eq_true (decide (a1.A ≥ (-600))) with b2 | b2
  ·replace hm := qC b2 hm
   rcases Bool.eq_false_or_eq_true (decide (a1.A < a1.B)) with b3 | b3
   ·replace hm := qC b3 hm
    refine q_vn [qf 3 b2, qf 10 b3] 1 ⟨[(2, vb (decide (a1.B ≤ 600)))], []⟩ ?_
    exact q_J (decide (a1.B ≤ 600)) hm
   ·replace hm := qB b3 hm
    refine q_vn [qf 3 b2, qf 10 b3] 1 ⟨[(2, vb false)], []⟩ ?_
    exact q_J (false) hm
  ·replace hm := qB b2 hm
   refine q_vn [qf 3 b2] 1 ⟨[(2, vb false)], []⟩ ?_
   exact q_J (false) hm
def qI0 (r : Bool) : V := vb r
def qJy (r : Bool) : List (Nat × (Nat × O)) := []
def qAp (x3 : Bool) : St :=
 ⟨[(2, vb x3)], []⟩
theorem HP (a1 : Int) (r : Bool) (hm : PS a1 = some r) : CtX Tryz.prog globs 110 0 0 [.one (ci a1)] [] (qI0 r) (qJy r) := by
 unfold PS at hm
 refine q_E Tryz.f110 9 fun E => ?_
 refine q_sq ?_
 refine q_vn [] 0 ⟨[(0, vi a1)], []⟩ ?_
 refine q_jn (ι := Bool) (fun p => qAp p) (fun p => GK p = some r) ?_ ?_
 ·rintro x3 hm
  show H _ (qAp x3) _ _
  obtain rfl := Option.some.inj hm
  refine q_rt ?_
  exact q_rm
 ·rcases Bool.eq_false_or_eq_true (decide (a1 < (-600))) with b2 | b2
  ·replace hm := qC b2 hm
   refine q_vn [qf 2 b2] 0 ⟨[(2, vb true)], []⟩ ?_
   exact q_J (true) hm
  ·replace hm := qB b2 hm
   refine q_vn [qf 2 b2] 0 ⟨[(2, vb (decide (a1 > 600)))], []⟩ ?_
   exact q_J (decide (a1 > 600)) hm
set_option maxRecDepth 100000
def qK1 (r : Bool) : V := vb r
def qKJ (r : Bool) : List (Nat × (Nat × O)) := []
theorem ZR (a1 : Span) (r : Bool) (hm : JP a1 = some r) : CtX Tryz.prog globs 111 0 0 [.agg (e_Span a1)] [] (qK1 r) (qKJ r) := by
 unfold JP at hm
 refine q_E Tryz.f111 8 fun E => ?_
 refine q_sq ?_
 refine q_vn [] 0 ⟨[(1, vp 0 0)], [(0, bx 26 (e_Span a1))]⟩ ?_
 refine q_sq ?_
 refine q_vn [] 1 ⟨[(2, vb (decide (a1.A ≥ a1.B)))], []⟩ ?_
 obtain rfl := Option.some.inj hm
 refine q_rt ?_
 exact q_rm
end Saw
end Go.SL
