import Derived.Test.YtjobdnkaonbgnaaGreatEBase
import Derived.Test.YtjobdnkaonbgnaaGreatEFa6
set_option linter.unusedVariables false
set_option linter.unusedSimpArgs false
namespace Go.SL
namespace Saw
open Go.Proofs
set_option maxHeartbeats 4000000
set_option maxRecDepth 100000
def qGf (r : Int × Int) : V := .tup [.one (.val (.int .u64 r.1)), .one (.val (.int .u64 r.2))]
def qF3 (r : Int × Int) : List (Nat × (Nat × O)) := []
theorem qEF (a1 : Int) (a2 : Int) (r : Int × Int) (hm : SP a1 a2 = some r) : CtX Tryz.prog globs 53 0 0 [.one (.val (.int .u64 a1)), .one (.val (.int .u64 a2))] [] (qGf r) (qF3 r) := by
 unfold SP at hm
 refine q_E Tryz.f53 51 fun E => ?_
 refine s_vn [] 0 ⟨[(0, vc (.val (.int .u64 a1))), (1, vc (.val (.int .u64 a2)))], []⟩ ?_
 refine s_vu [] 0 [] [(6, vc (.val (.int .u64 (andI .u64 a1 4294967295))))] [] [] ?_
 refine s_vu [qd 1 (Dir.none) (show ¬ (32 : Int) < 0 by decide)] 0 [] [(7, vc (.val (.int .u64 (shrI .u64 a1 32))))] [] [] ?_
 refine s_vu [] 0 [] [(8, vc (.val (.int .u64 (andI .u64 a2 4294967295))))] [] [] ?_
 refine s_vu [qd 1 (Dir.none) (show ¬ (32 : Int) < 0 by decide)] 0 [] [(9, vc (.val (.int .u64 (shrI .u64 a2 32))))] [] [] ?_
 refine s_vu [] 0 [] [(10, vc (.val (.int .u64 (IntKind.u64.wrap ((andI .u64 a1 4294967295) * (andI .u64 a2 4294967295))))))] [] [] ?_
 refine s_vu [qd 4 (Dir.none) (show ¬ (32 : Int) < 0 by decide)] 0 [8, 10] [(11, vc (.val (.int .u64 (IntKind.u64.wrap ((IntKind.u64.wrap ((shrI .u64 a1 32) * (andI .u64 a2 4294967295))) + (shrI .u64 (IntKind.u64.wrap ((andI .u64 a1 4294967295) * (andI .u64 a2 4294967295))) 32))))))] [] [] ?_
 refine s_vu [] 0 [] [(12, vc (.val (.int .u64 (andI .u64 (IntKind.u64.wrap ((IntKind.u64.wrap ((shrI .u64 a1 32) * (andI .u64 a2 4294967295))) + (shrI .u64 (IntKind.u64.wrap ((andI .u64 a1 4294967295) * (andI .u64 a2 4294967295))) 32))) 4294967295))))] [] [] ?_
 refine s_vu [qd 1 (Dir.none) (show ¬ (32 : Int) < 0 by decide)] 0 [11] [(13, vc (.val (.int .u64 (shrI .u64 (IntKind.u64.wrap ((IntKind.u64.wrap ((shrI .u64 a1 32) * (andI .u64 a2 4294967295))) + (shrI .u64 (IntKind.u64.wrap ((andI .u64 a1 4294967295) * (andI .u64 a2 4294967295))) 32))) 32))))] [] [] ?_
 refine s_vu [] 0 [6, 12] [(12, vc (.val (.int .u64 (IntKind.u64.wrap ((andI .u64 (IntKind.u64.wrap ((IntKind.u64.wrap ((shrI .u64 a1 32) * (andI .u64 a2 4294967295))) + (shrI .u64 (IntKind.u64.wrap ((andI .u64 a1 4294967295) * (andI .u64 a2 4294967295))) 32))) 4294967295) + (IntKind.u64.wrap ((andI .u64 a1 4294967295) * (shrI .u64 a2 32))))))))] [] [] ?_
 refine s_vu [qd 6 (Dir.none) (show ¬ (32 : Int) < 0 by decide)] 0 [7, 9, 12, 13] [(4, vc (.val (.int .u64 (IntKind.u64.wrap ((IntKind.u64.wrap ((IntKind.u64.wrap ((shrI .u64 a1 32) * (shrI .u64 a2 32))) + (shrI .u64 (IntKind.u64.wrap ((IntKind.u64.wrap ((shrI .u64 a1 32) * (andI .u64 a2 4294967295))) + (shrI .u64 (IntKind.u64.wrap ((andI .u64 a1 4294967295) * (andI .u64 a2 4294967295))) 32))) 32))) + (shrI .u64 (IntKind.u64.wrap ((andI .u64 (IntKind.u64.wrap ((IntKind.u64.wrap ((shrI .u64 a1 32) * (andI .u64 a2 4294967295))) + (shrI .u64 (IntKind.u64.wrap ((andI .u64 a1 4294967295) * (andI .u64 a2 4294967295))) 32))) 4294967295) + (IntKind.u64.wrap ((andI .u64 a1 4294967295) * (shrI .u64 a2 32))))) 32))))))] [] [] ?_
 refine s_vu [] 0 [0, 1] [(5, vc (.val (.int .u64 (IntKind.u64.wrap (a1 * a2)))))] [] [] ?_
 obtain rfl := oi hm
 refine q_rt ?_
 exact q_rm
def qFO (r : Int × Int) : V := .tup [.one (.val (.int .u64 r.1)), .one (.val (.int .u64 r.2))]
def qF5 (r : Int × Int) : List (Nat × (Nat × O)) := []
theorem qEH (a1 : Int) (a2 : Int) (a3 : Int) (r : Int × Int) (hm : EN a1 a2 a3 = some r) : CtX Tryz.prog globs 55 0 0 [.one (.val (.int .u64 a1)), .one (.val (.int .u64 a2)), .one (.val (.int .u64 a3))] [] (qFO r) (qF5 r) := by
 unfold EN at hm
 refine q_E Tryz.f55 135 fun E => ?_
 refine s_vn [] 0 ⟨[(0, vc (.val (.int .u64 a1))), (1, vc (.val (.int .u64 a2))), (2, vc (.val (.int .u64 a3)))], []⟩ ?_
 refine q_sq ?_
 refine s_vu [] 0 [] [(20, vb (a3 == 0))] [] [] ?_
 refine q_cn (a3 == 0) (fun b4 => ?_) (fun b4 => ?_)
 ·replace hm := qB b4 hm
  cases hm
 ·replace hm := qC b4 hm
  refine q_sk ?_
  refine q_sq ?_
  refine s_vu [] 0 [20] [(24, vb (decide (a3 ≤ a1)))] [] [] ?_
  refine q_cn (decide (a3 ≤ a1)) (fun b5 => ?_) (fun b5 => ?_)
  ·replace hm := qB b5 hm
   cases hm
  ·replace hm := qC b5 hm
   refine q_sk ?_
   refine q_sq ?_
   refine s_vu [] 0 [24] [(27, vb (a1 == 0))] [] [] ?_
   refine q_cn (a1 == 0) (fun b6 => ?_) (fun b6 => ?_)
   ·replace hm := qB b6 hm
    obtain ⟨g7, hm⟩ := qM hm
    refine s_dn [qd 2 (Dir.none) (qIE g7), qd 5 (Dir.none) (qIE g7)] [0, 0, 3, 0, 0, 24, 7, 127] 0 ⟨[(6, vc (.val (.int .u64 (IntKind.u64.wrap (Int.tdiv a2 a3))))), (7, vc (.val (.int .u64 (Int.tmod a2 a3))))], []⟩ ?_
    obtain rfl := oi hm
    refine q_rt ?_
    exact q_rm
   ·replace hm := qC b6 hm
    refine q_sk ?_
    refine q_sq ?_
    cases hm
def qIY (r : Int × Int) : V := .tup [.one (ci r.1), .one (ci r.2)]
def qJn (r : Int × Int) : List (Nat × (Nat × O)) := []
def qAz (x21 : Int) : St :=
 ⟨[(10, vc (.val (.int .u64 x21)))], []⟩
def qAf (v12 : Int × Int) (x18 : Bool) : St :=
 ⟨[(10, vc (.val (.int .u64 v12.1))), (11, vc (.val (.int .u64 v12.2))), (52, vb x18)], []⟩
theorem qH1 (a1 : Int) (a2 : Int) (a3 : Int) (r : Int × Int) (hm : qBR a1 a2 a3 = some r) : CtX Tryz.prog globs 29 0 0 [.one (ci a1), .one (ci a2), .one (ci a3)] [] (qIY r) (qJn r) := by
 unfold qBR at hm
 refine q_E Tryz.f29 60 fun E => ?_
 refine s_vn [] 0 ⟨[(0, vi a1), (1, vi a2), (2, vi a3)], []⟩ ?_
 refine q_sq ?_
 refine s_vu [] 0 [] [(13, vb (decide (a3 ≤ 0)))] [] [] ?_
 refine q_cn (decide (a3 ≤ 0)) (fun b4 => ?_) (fun b4 => ?_)
 ·replace hm := qB b4 hm
  refine s_vn [] 0 ⟨[(6, vi 0), (7, vi 9)], []⟩ ?_
  obtain rfl := oi hm
  refine q_rt ?_
  exact q_rm
 ·replace hm := qC b4 hm
  refine q_sk ?_
  obtain ⟨v5, h6, hm⟩ := qD hm
  obtain ⟨v7, h8, hm⟩ := qD hm
  obtain ⟨v9, h10, hm⟩ := qD hm
  refine s_vu [qc 1 [15] 0 (OS a1 v5 h6), qc 3 [17] 0 (OS a2 v7 h8), qc 4 [16, 18] 0 (qEF v5 v7 v9 h10)] 0 [13] [(8, vc (.val (.int .u64 v9.1))), (9, vc (.val (.int .u64 v9.2)))] [] [] ?_
  refine q_sq ?_
  refine s_vu [] 0 [] [(25, vb (decide (v9.1 ≥ (IntKind.u64.wrap (a3)))))] [] [] ?_
  refine q_cn (decide (v9.1 ≥ (IntKind.u64.wrap (a3)))) (fun b11 => ?_) (fun b11 => ?_)
  ·replace hm := qB b11 hm
   refine s_vn [] 0 ⟨[(6, vi 0), (7, vi 9)], []⟩ ?_
   obtain rfl := oi hm
   refine q_rt ?_
   exact q_rm
  ·replace hm := qC b11 hm
   refine q_sk ?_
   obtain ⟨v12, h13, hm⟩ := qD hm
   refine s_vu [qc 4 [27, 28, 30] 0 (qEH v9.1 v9.2 (IntKind.u64.wrap (a3)) v12 h13)] 0 [2, 8, 9, 25] [(10, vc (.val (.int .u64 v12.1))), (11, vc (.val (.int .u64 v12.2)))] [] [] ?_
   refine q_sq ?_
   refine s_vu [] 0 [0, 1] [(38, vb ((decide (a1 < 0)) == (decide (a2 < 0))))] [] [] ?_
   refine q_cn ((decide (a1 < 0)) == (decide (a2 < 0))) (fun b14 => ?_) (fun b14 => ?_)
   ·replace hm := qB b14 hm
    refine q_sq ?_
    refine s_vu [] 0 [11, 38] [(40, vb (decide (v12.1 > 9223372036854775807)))] [] [] ?_
    refine q_cn (decide (v12.1 > 9223372036854775807)) (fun b15 => ?_) (fun b15 => ?_)
    ·replace hm := qB b15 hm
     refine s_vn [] 0 ⟨[(6, vi 0), (7, vi 9)], []⟩ ?_
     obtain rfl := oi hm
     refine q_rt ?_
     exact q_rm
    ·replace hm := qC b15 hm
     refine q_sk ?_
     refine s_vn [] 0 ⟨[(6, vi (w64 (v12.1))), (7, vi 0)], []⟩ ?_
     obtain rfl := oi hm
     refine q_rt ?_
     exact q_rm
   ·replace hm := qC b14 hm
    refine q_sk ?_
    refine q_sq ?_
    refine q_jn (ι := Bool) (fun p => qAf v12 p) (fun p => DE v12 p = some r) ?_ ?_
    ·rintro x18 hm
     show H _ (qAf v12 x18) _ _
     refine q_cn x18 (fun b19 => ?_) (fun b19 => ?_)
     ·replace hm := qB b19 hm
      refine s_vn [] 0 ⟨[(6, vi 0), (7, vi 9)], []⟩ ?_
      obtain rfl := oi hm
      refine q_rt ?_
      exact q_rm
     ·replace hm := qC b19 hm
      refine q_sk ?_
      refine q_jn (ι := Int) (fun p => qAz p) (fun p => EO p = some r) ?_ ?_
      ·rintro x21 hm
       show H _ (qAz x21) _ _
       refine s_vn [] 0 ⟨[(6, vi (w64 (IntKind.u64.wrap (0 - x21)))), (7, vi 0)], []⟩ ?_
       obtain rfl := oi hm
       refine q_rt ?_
       exact q_rm
      ·refine s_vu [] 0 [11, 52] [(54, vb (decide (v12.2 > 0)))] [] [] ?_
       refine q_cn (decide (v12.2 > 0)) (fun b20 => ?_) (fun b20 => ?_)
       ·replace hm := qB b20 hm
        refine q_vn [] 0 ⟨[(10, vc (.val (.int .u64 (IntKind.u64.wrap (v12.1 + 1)))))], []⟩ ?_
        exact q_J (IntKind.u64.wrap (v12.1 + 1)) hm
       ·replace hm := qC b20 hm
        refine q_sk ?_
        exact q_J (v12.1) hm
    ·rcases Bool.eq_false_or_eq_true (decide (v12.1 > 9223372036854775808)) with b16 | b16
     ·replace hm := qB b16 hm
      refine q_vu [qf 2 b16] 0 [38] [(52, vb true)] [] [] ?_
      exact q_J (true) hm
     ·replace hm := qC b16 hm
      rcases Bool.eq_false_or_eq_true (v12.1 == 9223372036854775808) with b17 | b17
      ·replace hm := qB b17 hm
       refine q_vu [qf 2 b16, qf 5 b17] 0 [38] [(52, vb (decide (v12.2 > 0)))] [] [] ?_
       exact q_J (decide (v12.2 > 0)) hm
      ·replace hm := qC b17 hm
       refine q_vu [qf 2 b16, qf 5 b17] 0 [38] [(52, vb false)] [] [] ?_
       exact q_J (false) hm
def HM (r : Bool) : V := vb r
def MU (r : Bool) : List (Nat × (Nat × O)) := []
def AJ (a1 : Yield) (x2 : Int) (x6 : Bool) : St :=
 ⟨[(1, vp 0 0), (13, va [ci a1.Log, ci a1.Boards, ci a1.Chips, ci a1.Dust]), (14, vi x2), (22, vb x6)], [(0, bx 50 (wG a1))]⟩
def GG (a1 : Yield) (x2 : Int) : St :=
 ⟨[(1, vp 0 0), (13, va [ci a1.Log, ci a1.Boards, ci a1.Chips, ci a1.Dust]), (14, vi x2)], [(0, bx 50 (wG a1))]⟩
def AH (a1 : Yield) : St :=
 ⟨[(1, vp 0 0)], [(0, bx 50 (wG a1))]⟩
theorem qD9 (E : Env 0) (a1 : Yield) : ∀ (n : Nat) (x2 : Int) (res : Bool ⊕ Unit), JZ a1 n x2 = some res → HL (kx E 35 0) (nd Tryz.f16 52) (wN 0 (fun o => AH a1) (fun v st => RetQ Tryz.prog Tryz.f16 (HM v) (MU v) .ret st) res) n (GG a1 x2) := by
 intro n
 induction n with
 | zero =>
  intro x2 res hm
  cases hm
 | succ n ih =>
  intro x2 res hm
  refine qQ ?_
  refine s_vu [] 1 [] [(15, vb (decide (x2 < 4)))] [] [] ?_
  refine q_sq ?_
  refine q_cn (decide (x2 < 4)) (fun b3 => ?_) (fun b3 => ?_)
  ·replace hm := qB b3 hm
   refine q_sk ?_
   refine q_sq ?_
   refine q_bk 1 ?_
   obtain ⟨g4, hm⟩ := qM hm
   refine s_vu [qd 0 (Dir.none) (inb_of g4)] 1 [15] [(4, vi (([a1.Log, a1.Boards, a1.Chips, a1.Dust] : List Int).getD x2.toNat 0))] [] [] ?_
   refine q_jn (ι := Bool) (fun p => AJ a1 x2 p) (fun p => LA x2 (JZ a1 n) p = some res) ?_ ?_
   ·rintro x6 hm
    show H _ (AJ a1 x2 x6) _ _
    refine q_cn x6 (fun b7 => ?_) (fun b7 => ?_)
    ·replace hm := qB b7 hm
     refine s_vn [] 1 ⟨[(2, vb false)], []⟩ ?_
     obtain rfl := oi hm
     refine q_rt ?_
     refine zB false ?_
     exact q_rm
    ·replace hm := qC b7 hm
     refine q_sk ?_
     refine q_vu [] 1 [14, 22] [(14, vi (w64 (x2 + 1)))] [] [] ?_
     exact q_hl (GG a1 (w64 (x2 + 1))) (ih (w64 (x2 + 1)) _ hm)
   ·rcases Bool.eq_false_or_eq_true (decide ((([a1.Log, a1.Boards, a1.Chips, a1.Dust] : List Int).getD x2.toNat 0) < 0)) with b5 | b5
    ·replace hm := qB b5 hm
     refine q_vu [qf 2 b5] 1 [4] [(22, vb true)] [] [] ?_
     exact q_J (true) hm
    ·replace hm := qC b5 hm
     refine q_vu [qf 2 b5] 1 [4] [(22, vb (decide ((([a1.Log, a1.Boards, a1.Chips, a1.Dust] : List Int).getD x2.toNat 0) > 2305843009213693952)))] [] [] ?_
     exact q_J (decide ((([a1.Log, a1.Boards, a1.Chips, a1.Dust] : List Int).getD x2.toNat 0) > 2305843009213693952)) hm
  ·replace hm := qC b3 hm
   refine q_ex 0 ?_
   obtain rfl := oi hm
   exact wR () (by kernel_rfl) (by kernel_rfl)
theorem LH (a1 : Yield) (r : Bool) (hm : FF a1 = some r) : CtX Tryz.prog globs 16 0 0 [.agg (wG a1)] [] (HM r) (MU r) := by
 unfold FF at hm
 refine q_E Tryz.f16 35 fun E => ?_
 refine s_vn [] 0 ⟨[(1, vp 0 0)], [(0, bx 50 (wG a1))]⟩ ?_
 refine q_sq ?_
 refine s_vu [] 1 [] [(13, va [ci a1.Log, ci a1.Boards, ci a1.Chips, ci a1.Dust]), (14, vi 0)] [] [] ?_
 obtain ⟨u10, h9, hm⟩ := qD hm
 refine zP (nd Tryz.f16 52) 0 (by kernel_rfl) FUEL (fun o => AH a1) (fun v st => RetQ Tryz.prog Tryz.f16 (HM v) (MU v) .ret st) u10 (q_hl (GG a1 0) (qD9 E a1 FUEL 0 u10 h9)) ?_ ?_
 ·rintro v11 rfl st hr
  obtain rfl := oi hm
  exact hr
 ·rintro o8 rfl
  replace hm : _ = some r := hm
  refine s_vn [] 1 ⟨[(2, vb (a1.Log == (w64 ((w64 (a1.Boards + a1.Chips)) + a1.Dust))))], []⟩ ?_
  obtain rfl := oi hm
  refine q_rt ?_
  exact q_rm
def qGy (r : Int) : V := vi r
def qGF (r : Int) : List (Nat × (Nat × O)) := []
def AM (a1 : Yield) (x5 : Bool) : St :=
 ⟨[(1, vp 0 0), (12, vb x5)], [(0, bx 50 (wG a1))]⟩
theorem qAu (a1 : Yield) (r : Int) (hm : AP a1 = some r) : CtX Tryz.prog globs 15 0 0 [.agg (wG a1)] [] (qGy r) (qGF r) := by
 unfold AP at hm
 refine q_E Tryz.f15 24 fun E => ?_
 refine s_vn [] 0 ⟨[(1, vp 0 0)], [(0, bx 50 (wG a1))]⟩ ?_
 refine q_sq ?_
 refine q_jn (ι := Bool) (fun p => AM a1 p) (fun p => LF a1 p = some r) ?_ ?_
 ·rintro x5 hm
  show H _ (AM a1 x5) _ _
  refine q_cn x5 (fun b6 => ?_) (fun b6 => ?_)
  ·replace hm := qB b6 hm
   refine s_vn [] 1 ⟨[(2, vi 0)], []⟩ ?_
   obtain rfl := oi hm
   refine q_rt ?_
   exact q_rm
  ·replace hm := qC b6 hm
   refine q_sk ?_
   obtain ⟨v7, h8, hm⟩ := qD hm
   refine s_vn [qk 4 [15, 17] 1 ⟨[(15, vi a1.Boards), (17, vi a1.Log)], []⟩ (qH1 1000 a1.Boards a1.Log v7 h8)] 1 ⟨[(3, vi v7.1), (4, vi v7.2)], []⟩ ?_
   refine q_sq ?_
   refine s_vu [] 1 [4] [(22, vb (v7.2 != 0))] [] [] ?_
   refine q_cn (v7.2 != 0) (fun b9 => ?_) (fun b9 => ?_)
   ·replace hm := qB b9 hm
    refine s_vn [] 1 ⟨[(2, vi 0)], []⟩ ?_
    obtain rfl := oi hm
    refine q_rt ?_
    exact q_rm
   ·replace hm := qC b9 hm
    refine q_sk ?_
    refine s_vn [] 1 ⟨[(2, vi v7.1)], []⟩ ?_
    obtain rfl := oi hm
    refine q_rt ?_
    exact q_rm
 ·obtain ⟨v2, h3, hm⟩ := qD hm
  rcases Bool.eq_false_or_eq_true (!v2) with b4 | b4
  ·replace hm := qB b4 hm
   refine q_vu [qc 1 [5] 1 (LH a1 v2 h3), qf 3 b4] 1 [] [(12, vb true)] [] [] ?_
   exact q_J (true) hm
  ·replace hm := qC b4 hm
   refine q_vu [qc 1 [5] 1 (LH a1 v2 h3), qf 3 b4] 1 [] [(12, vb (a1.Log == 0))] [] [] ?_
   exact q_J (a1.Log == 0) hm
def qMT (r : Int) : V := vi r
def qNe (r : Int) : List (Nat × (Nat × O)) := []
theorem qEi (a1 : Span) (a2 : Int) (a3 : Int) (r : Int) (hm : NY a1 a2 a3 = some r) : CtX Tryz.prog globs 51 0 0 [.agg (e_Span a1), .one (ci a2), .one (ci a3)] [] (qMT r) (qNe r) := by
 unfold NY at hm
 refine q_E Tryz.f51 25 fun E => ?_
 refine s_vn [] 0 ⟨[(1, vi a2), (2, vi a3), (3, vp 0 0)], [(0, bx 26 (e_Span a1))]⟩ ?_
 refine s_dn [] [0, 1, 0, 7, 0, 16, 0, 0, 192, 496, 15, 2047] 1 ⟨[(7, vi (imax a1.A a2)), (8, vi (imin a1.B (w64 (a2 + a3))))], []⟩ ?_
 refine q_sq ?_
 refine s_vu [] 1 [] [(21, vb (decide ((imax a1.A a2) ≥ (imin a1.B (w64 (a2 + a3))))))] [] [] ?_
 refine q_cn (decide ((imax a1.A a2) ≥ (imin a1.B (w64 (a2 + a3))))) (fun b4 => ?_) (fun b4 => ?_)
 ·replace hm := qB b4 hm
  refine s_vn [] 1 ⟨[(6, vi 0)], []⟩ ?_
  obtain rfl := oi hm
  refine q_rt ?_
  exact q_rm
 ·replace hm := qC b4 hm
  refine q_sk ?_
  refine s_vn [] 1 ⟨[(6, vi (w64 ((imin a1.B (w64 (a2 + a3))) - (imax a1.A a2))))], []⟩ ?_
  obtain rfl := oi hm
  refine q_rt ?_
  exact q_rm
def qLN (r : Bool) : V := vb r
def qLf (r : Bool) : List (Nat × (Nat × O)) := []
theorem ZZ (a1 : Span) (r : Bool) (hm : YK a1 = some r) : CtX Tryz.prog globs 111 0 0 [.agg (e_Span a1)] [] (qLN r) (qLf r) := by
 unfold YK at hm
 refine q_E Tryz.f111 8 fun E => ?_
 refine s_vn [] 0 ⟨[(1, vp 0 0)], [(0, bx 26 (e_Span a1))]⟩ ?_
 refine s_vn [] 1 ⟨[(2, vb (decide (a1.A ≥ a1.B)))], []⟩ ?_
 obtain rfl := oi hm
 refine q_rt ?_
 exact q_rm
def qIS (r : Int) : V := vi r
def qIL (r : Int) : List (Nat × (Nat × O)) := []
def qAw (a1 : Span) (a2 : Span) (x6 : Bool) : St :=
 ⟨[(5, vi (imax a1.A a2.A)), (6, vi (imin a1.B a2.B)), (23, vb x6)], []⟩
theorem qCf (a1 : Span) (a2 : Span) (r : Int) (hm : TC a1 a2 = some r) : CtX Tryz.prog globs 90 0 0 [.agg (e_Span a1), .agg (e_Span a2)] [] (qIS r) (qIL r) := by
 unfold TC at hm
 refine q_E Tryz.f90 27 fun E => ?_
 refine s_vn [] 0 ⟨[(2, vp 0 0), (3, vp 1 0)], [(0, bx 26 (e_Span a1)), (1, bx 26 (e_Span a2))]⟩ ?_
 refine s_du [] [0, 1, 0, 4, 15, 0, 32, 0, 128, 480, 31, 2047] 2 [2] [(5, vi (imax a1.A a2.A)), (6, vi (imin a1.B a2.B))] [0] [] ?_
 refine q_sq ?_
 refine q_jn (ι := Bool) (fun p => qAw a1 a2 p) (fun p => GP a1 a2 p = some r) ?_ ?_
 ·rintro x6 hm
  show H _ (qAw a1 a2 x6) _ _
  refine q_cn x6 (fun b7 => ?_) (fun b7 => ?_)
  ·replace hm := qB b7 hm
   refine s_vn [] 2 ⟨[(4, vi 0)], []⟩ ?_
   obtain rfl := oi hm
   refine q_rt ?_
   exact q_rm
  ·replace hm := qC b7 hm
   refine q_sk ?_
   refine s_vn [] 2 ⟨[(4, vi (w64 ((imin a1.B a2.B) - (imax a1.A a2.A))))], []⟩ ?_
   obtain rfl := oi hm
   refine q_rt ?_
   exact q_rm
 ·obtain ⟨v3, h4, hm⟩ := qD hm
  rcases Bool.eq_false_or_eq_true v3 with b5 | b5
  ·replace hm := qB b5 hm
   refine q_vu [qc 1 [17] 2 (ZZ a2 v3 h4), qf 2 b5] 2 [3] [(23, vb true)] [1] [] ?_
   exact q_J (true) hm
  ·replace hm := qC b5 hm
   refine q_vu [qc 1 [17] 2 (ZZ a2 v3 h4), qf 2 b5] 2 [3] [(23, vb (decide ((imax a1.A a2.A) ≥ (imin a1.B a2.B))))] [1] [] ?_
   exact q_J (decide ((imax a1.A a2.A) ≥ (imin a1.B a2.B))) hm
def qHp (r : Span) : V := va (e_Span r)
def qIc (r : Span) : List (Nat × (Nat × O)) := []
theorem qGS (a1 : Int) (r : Span) (hm : UU a1 = some r) : CtX Tryz.prog globs 91 0 0 [.one (ci a1)] [] (qHp r) (qIc r) := by
 unfold UU at hm
 refine q_E Tryz.f91 9 fun E => ?_
 refine s_vn [] 0 ⟨[(0, vi a1), (2, vp 0 0)], [(0, bx 26 [ci 0, ci 0])]⟩ ?_
 refine s_vu [] 1 [0] [] [0] [(0, bx 26 [ci (w64 (10 * a1)), ci (w64 (10 * (w64 (a1 + 1))))])] ?_
 obtain rfl := oi hm
 refine q_rt ?_
 exact q_rm
def qIP (r : Bool) : V := vb r
def qJC (r : Bool) : List (Nat × (Nat × O)) := []
def CU (x3 : Bool) : St :=
 ⟨[(2, vb x3)], []⟩
theorem SZ (a1 : Int) (r : Bool) (hm : TB a1 = some r) : CtX Tryz.prog globs 110 0 0 [.one (ci a1)] [] (qIP r) (qJC r) := by
 unfold TB at hm
 refine q_E Tryz.f110 9 fun E => ?_
 refine s_vn [] 0 ⟨[(0, vi a1)], []⟩ ?_
 refine q_jn (ι := Bool) (fun p => CU p) (fun p => DO p = some r) ?_ ?_
 ·rintro x3 hm
  show H _ (CU x3) _ _
  obtain rfl := oi hm
  refine q_rt ?_
  exact q_rm
 ·rcases Bool.eq_false_or_eq_true (decide (a1 < (-600))) with b2 | b2
  ·replace hm := qB b2 hm
   refine q_vn [qf 2 b2] 0 ⟨[(2, vb true)], []⟩ ?_
   exact q_J (true) hm
  ·replace hm := qC b2 hm
   refine q_vn [qf 2 b2] 0 ⟨[(2, vb (decide (a1 > 600)))], []⟩ ?_
   exact q_J (decide (a1 > 600)) hm
def US (r : Int) : V := vi r
def UW (r : Int) : List (Nat × (Nat × O)) := []
def qB1 (a1 : qK) (x6 : Int) (x14 : Bool) : St :=
 ⟨[(1, vp 0 0), (3, vi ((a1.Rows.length : Nat) : Int)), (4, vi x6), (41, vb x14)], [(0, bx 57 (qW a1))]⟩
def HF (a1 : qK) (x6 : Int) : St :=
 ⟨[(1, vp 0 0), (3, vi ((a1.Rows.length : Nat) : Int)), (4, vi x6)], [(0, bx 57 (qW a1))]⟩
def qBV (a1 : qK) : St :=
 ⟨[(1, vp 0 0), (3, vi ((a1.Rows.length : Nat) : Int))], [(0, bx 57 (qW a1))]⟩
def qBt (a1 : qK) (x31 : Int) (x37 : Bool) : St :=
 ⟨[(1, vp 0 0), (3, vi ((a1.Rows.length : Nat) : Int)), (5, vi x31), (80, vb x37)], [(0, bx 57 (qW a1))]⟩
def HK (a1 : qK) (x31 : Int) : St :=
 ⟨[(1, vp 0 0), (3, vi ((a1.Rows.length : Nat) : Int)), (5, vi x31)], [(0, bx 57 (qW a1))]⟩
def qBJ : St :=
 ⟨[], []⟩
def qBz (a1 : qK) (x29 : Bool) : St :=
 ⟨[(1, vp 0 0), (3, vi ((a1.Rows.length : Nat) : Int)), (60, vb x29)], [(0, bx 57 (qW a1))]⟩
def qBn (a1 : qK) (x4 : Bool) : St :=
 ⟨[(1, vp 0 0), (3, vi ((a1.Rows.length : Nat) : Int)), (20, vb x4)], [(0, bx 57 (qW a1))]⟩
theorem qGe (E : Env 0) (a1 : qK) : ∀ (n : Nat) (x6 : Int) (res : Int ⊕ Unit), yF a1 n x6 = some res → HL (kx E 81 0) (nd Tryz.f69 500) (wN 0 (fun o => qBV a1) (fun v st => RetQ Tryz.prog Tryz.f69 (US v) (UW v) .ret st) res) n (HF a1 x6) := by
 intro n
 induction n with
 | zero =>
  intro x6 res hm
  cases hm
 | succ n ih =>
  intro x6 res hm
  refine qQ ?_
  refine q_sq ?_
  refine s_vu [] 1 [] [(23, vb (decide (x6 < ((a1.Rows.length : Nat) : Int))))] [] [] ?_
  refine q_cn (decide (x6 < ((a1.Rows.length : Nat) : Int))) (fun b7 => ?_) (fun b7 => ?_)
  ·replace hm := qB b7 hm
   refine q_sk ?_
   refine q_sq ?_
   refine q_bk 1 ?_
   refine q_jn (ι := Bool) (fun p => qB1 a1 x6 p) (fun p => NW x6 (yF a1 n) p = some res) ?_ ?_
   ·rintro x14 hm
    show H _ (qB1 a1 x6 x14) _ _
    refine q_cn x14 (fun b15 => ?_) (fun b15 => ?_)
    ·replace hm := qB b15 hm
     refine s_vn [] 1 ⟨[(2, vi 9)], []⟩ ?_
     obtain rfl := oi hm
     refine q_rt ?_
     refine zB 9 ?_
     exact q_rm
    ·replace hm := qC b15 hm
     refine q_sk ?_
     refine q_vu [] 1 [4, 41] [(4, vi (w64 (x6 + 1)))] [] [] ?_
     exact q_hl (HF a1 (w64 (x6 + 1))) (ih (w64 (x6 + 1)) _ hm)
   ·obtain ⟨g8, hm⟩ := qM hm
    obtain ⟨v9, h10, hm⟩ := qD hm
    rcases Bool.eq_false_or_eq_true v9 with b11 | b11
    ·replace hm := qB b11 hm
     refine q_vu [qd 3 (Dir.none) (inb_of g8), qc 6 [31] 1 (SZ ((a1.Rows.getD x6.toNat default).A) v9 h10), qf 7 b11] 1 [23] [(41, vb true)] [] [] ?_
     exact q_J (true) hm
    ·replace hm := qC b11 hm
     obtain ⟨v12, h13, hm⟩ := qD hm
     refine q_vu [qd 3 (Dir.none) (inb_of g8), qc 6 [31] 1 (SZ ((a1.Rows.getD x6.toNat default).A) v9 h10), qf 7 b11, qd 11 (Dir.none) (inb_of g8), qk 14 [33, 39] 1 ⟨[(33, vb false), (39, vi ((a1.Rows.getD x6.toNat default).B))], []⟩ (SZ ((a1.Rows.getD x6.toNat default).B) v12 h13)] 1 [23] [(41, vb v12)] [] [] ?_
     exact q_J (v12) hm
  ·replace hm := qC b7 hm
   refine q_ex 0 ?_
   obtain rfl := oi hm
   exact wR () (by kernel_rfl) (by kernel_rfl)
theorem qF2 (E : Env 0) (a1 : qK) : ∀ (n : Nat) (x31 : Int) (res : Int ⊕ Unit), yI a1 n x31 = some res → HL (kx E 81 0) (nd Tryz.f69 4084) (wN 2 (fun o => qBJ) (fun v st => RetQ Tryz.prog Tryz.f69 (US v) (UW v) .ret st) res) n (HK a1 x31) := by
 intro n
 induction n with
 | zero =>
  intro x31 res hm
  cases hm
 | succ n ih =>
  intro x31 res hm
  refine qQ ?_
  refine q_sq ?_
  refine s_vu [] 1 [] [(63, vb (decide (x31 < ((a1.Rows.length : Nat) : Int))))] [] [] ?_
  refine q_cn (decide (x31 < ((a1.Rows.length : Nat) : Int))) (fun b32 => ?_) (fun b32 => ?_)
  ·replace hm := qB b32 hm
   refine q_sk ?_
   refine q_sq ?_
   refine q_bk 3 ?_
   refine q_jn (ι := Bool) (fun p => qBt a1 x31 p) (fun p => NU x31 (yI a1 n) p = some res) ?_ ?_
   ·rintro x37 hm
    show H _ (qBt a1 x31 x37) _ _
    refine q_cn x37 (fun b38 => ?_) (fun b38 => ?_)
    ·replace hm := qB b38 hm
     refine s_vn [] 1 ⟨[(2, vi 19)], []⟩ ?_
     obtain rfl := oi hm
     refine q_rt ?_
     refine zB 19 ?_
     exact q_rm
    ·replace hm := qC b38 hm
     refine q_sk ?_
     refine q_vu [] 1 [5, 80] [(5, vi (w64 (x31 + 1)))] [] [] ?_
     exact q_hl (HK a1 (w64 (x31 + 1))) (ih (w64 (x31 + 1)) _ hm)
   ·obtain ⟨g33, hm⟩ := qM hm
    obtain ⟨v34, h35, hm⟩ := qD hm
    rcases Bool.eq_false_or_eq_true v34 with b36 | b36
    ·replace hm := qB b36 hm
     refine q_vu [qd 3 (Dir.none) (inb_of g33), qc 5 [70] 1 (ZZ (a1.Rows.getD x31.toNat default) v34 h35), qf 6 b36, qd 10 (Dir.none) (inb_of g33)] 1 [63] [(80, vb (!((((a1.Rows.getD x31.toNat default).A) == 0) && ((((a1.Rows.getD x31.toNat default).B) == 0) && true))))] [] [] ?_
     exact q_J (!((((a1.Rows.getD x31.toNat default).A) == 0) && ((((a1.Rows.getD x31.toNat default).B) == 0) && true))) hm
    ·replace hm := qC b36 hm
     refine q_vu [qd 3 (Dir.none) (inb_of g33), qc 5 [70] 1 (ZZ (a1.Rows.getD x31.toNat default) v34 h35), qf 6 b36] 1 [63] [(80, vb false)] [] [] ?_
     exact q_J (false) hm
  ·replace hm := qC b32 hm
   refine q_ex 2 ?_
   obtain rfl := oi hm
   exact wR () (by kernel_rfl) (by kernel_rfl)
theorem qDh (a1 : qK) (r : Int) (hm : GE a1 = some r) : CtX Tryz.prog globs 69 0 0 [.agg (qW a1)] [] (US r) (UW r) := by
 unfold GE at hm
 refine q_E Tryz.f69 81 fun E => ?_
 refine s_vn [] 0 ⟨[(1, vp 0 0)], [(0, bx 57 (qW a1))]⟩ ?_
 refine s_vu [] 1 [] [(3, vi ((a1.Rows.length : Nat) : Int))] [] [] ?_
 refine q_sq ?_
 refine s_vu [] 1 [] [(10, vb (decide (((a1.Rows.length : Nat) : Int) > 120)))] [] [] ?_
 refine q_cn (decide (((a1.Rows.length : Nat) : Int) > 120)) (fun b2 => ?_) (fun b2 => ?_)
 ·replace hm := qB b2 hm
  refine s_vn [] 1 ⟨[(2, vi 4)], []⟩ ?_
  obtain rfl := oi hm
  refine q_rt ?_
  exact q_rm
 ·replace hm := qC b2 hm
  refine q_sk ?_
  refine q_sq ?_
  refine q_jn (ι := Bool) (fun p => qBn a1 p) (fun p => NO a1 p = some r) ?_ ?_
  ·rintro x4 hm
   show H _ (qBn a1 x4) _ _
   refine q_cn x4 (fun b5 => ?_) (fun b5 => ?_)
   ·replace hm := qB b5 hm
    refine s_vn [] 1 ⟨[(2, vi 9)], []⟩ ?_
    obtain rfl := oi hm
    refine q_rt ?_
    exact q_rm
   ·replace hm := qC b5 hm
    refine q_sk ?_
    refine q_sq ?_
    refine s_vu [] 1 [20] [(4, vi 0)] [] [] ?_
    obtain ⟨u18, h17, hm⟩ := qD hm
    refine zP (nd Tryz.f69 500) 0 (by kernel_rfl) FUEL (fun o => qBV a1) (fun v st => RetQ Tryz.prog Tryz.f69 (US v) (UW v) .ret st) u18 (q_hl (HF a1 0) (qGe E a1 FUEL 0 u18 h17)) ?_ ?_
    ·rintro v19 rfl st hr
     obtain rfl := oi hm
     exact hr
    ·rintro o16 rfl
     replace hm : _ = some r := hm
     refine q_sq ?_
     refine s_vu [] 1 [] [(43, vb (((a1.Rows.length : Nat) : Int) == 0))] [] [] ?_
     refine q_cn (((a1.Rows.length : Nat) : Int) == 0) (fun b20 => ?_) (fun b20 => ?_)
     ·replace hm := qB b20 hm
      refine q_sq ?_
      refine s_vn [] 1 ⟨[(46, vb (a1.Low != 0))], []⟩ ?_
      refine q_cn (a1.Low != 0) (fun b21 => ?_) (fun b21 => ?_)
      ·replace hm := qB b21 hm
       refine s_vn [] 1 ⟨[(2, vi 19)], []⟩ ?_
       obtain rfl := oi hm
       refine q_rt ?_
       exact q_rm
      ·replace hm := qC b21 hm
       refine q_sk ?_
       refine s_vn [] 1 ⟨[(2, vi 0)], []⟩ ?_
       obtain rfl := oi hm
       refine q_rt ?_
       exact q_rm
     ·replace hm := qC b20 hm
      refine q_sk ?_
      refine q_sq ?_
      refine q_jn (ι := Bool) (fun p => qBz a1 p) (fun p => NZ a1 p = some r) ?_ ?_
      ·rintro x29 hm
       show H _ (qBz a1 x29) _ _
       refine q_cn x29 (fun b30 => ?_) (fun b30 => ?_)
       ·replace hm := qB b30 hm
        refine s_vn [] 1 ⟨[(2, vi 19)], []⟩ ?_
        obtain rfl := oi hm
        refine q_rt ?_
        exact q_rm
       ·replace hm := qC b30 hm
        refine q_sk ?_
        refine q_sq ?_
        refine s_vu [] 1 [60] [(5, vi 0)] [] [] ?_
        obtain ⟨u41, h40, hm⟩ := qD hm
        refine zP (nd Tryz.f69 4084) 2 (by kernel_rfl) FUEL (fun o => qBJ) (fun v st => RetQ Tryz.prog Tryz.f69 (US v) (UW v) .ret st) u41 (q_hl (HK a1 0) (qF2 E a1 FUEL 0 u41 h40)) ?_ ?_
        ·rintro v42 rfl st hr
         obtain rfl := oi hm
         exact hr
        ·rintro o39 rfl
         replace hm : _ = some r := hm
         refine s_vn [] 1 ⟨[(2, vi 0)], []⟩ ?_
         obtain rfl := oi hm
         refine q_rt ?_
         exact q_rm
      ·obtain ⟨g22, hm⟩ := qM hm
       obtain ⟨v23, h24, hm⟩ := qD hm
       rcases Bool.eq_false_or_eq_true v23 with b25 | b25
       ·replace hm := qB b25 hm
        refine q_vu [qd 2 (Dir.none) (inb_of g22), qc 4 [50] 1 (ZZ (a1.Rows.getD (0 : Int).toNat default) v23 h24), qf 5 b25] 1 [43] [(60, vb true)] [] [] ?_
        exact q_J (true) hm
       ·replace hm := qC b25 hm
        obtain ⟨g26, hm⟩ := qM hm
        obtain ⟨v27, h28, hm⟩ := qD hm
        refine q_vu [qd 2 (Dir.none) (inb_of g22), qc 4 [50] 1 (ZZ (a1.Rows.getD (0 : Int).toNat default) v23 h24), qf 5 b25, qd 10 (Dir.none) (inb_of g26), qk 12 [52, 58] 1 ⟨[(52, vb false), (58, va [ci ((a1.Rows.getD (w64 (((a1.Rows.length : Nat) : Int) - 1)).toNat default).A), ci ((a1.Rows.getD (w64 (((a1.Rows.length : Nat) : Int) - 1)).toNat default).B)])], []⟩ (ZZ (a1.Rows.getD (w64 (((a1.Rows.length : Nat) : Int) - 1)).toNat default) v27 h28)] 1 [43] [(60, vb v27)] [] [] ?_
        exact q_J (v27) hm
  ·rcases Bool.eq_false_or_eq_true (decide (a1.Low < (-60))) with b3 | b3
   ·replace hm := qB b3 hm
    refine q_vu [qf 3 b3] 1 [10] [(20, vb true)] [] [] ?_
    exact q_J (true) hm
   ·replace hm := qC b3 hm
    refine q_vu [qf 3 b3] 1 [10] [(20, vb (decide (a1.Low > (w64 (60 - ((a1.Rows.length : Nat) : Int))))))] [] [] ?_
    exact q_J (decide (a1.Low > (w64 (60 - ((a1.Rows.length : Nat) : Int))))) hm
def qLj (r : qK) : V := va (qW r)
def qLE (r : qK) : List (Nat × (Nat × O)) := []
theorem qDu (a1 : qK) (r : qK) (hm : GB a1 = some r) : CtX Tryz.prog globs 89 0 0 [.agg (qW a1)] [] (qLj r) (qLE r) := by
 unfold GB at hm
 refine q_E Tryz.f89 8 fun E => ?_
 refine s_vn [] 0 ⟨[(1, vp 0 0), (2, vp 1 0)], [(0, bx 57 (qW a1)), (1, bx 57 [ci 0, .emp])]⟩ ?_
 refine q_sq ?_
 obtain ⟨v2, h3, hm⟩ := qD hm
 refine s_vu [qc 1 [3] 2 (qDh a1 v2 h3)] 2 [] [(5, vb (v2 != 0))] [] [] ?_
 refine q_cn (v2 != 0) (fun b4 => ?_) (fun b4 => ?_)
 ·replace hm := qB b4 hm
  refine s_vu [] 2 [1, 5] [] [0] [] ?_
  refine q_fn [.ownB 1 1 2 26 2 (rf e_Span ([] : List Span))] ⟨[(2, vp 1 0)], [(1, bx 57 [ci 0, .own 2 0 2 0]), (2, ro 0 26 2 0 (rf e_Span ([] : List Span)))]⟩ o0 ?_
  refine q_fn [.len 2 (([] : List Span).length), .frz 2] ⟨[(2, vp 1 0)], [(1, bx 57 [ci 0, tl e_Span default ([] : List Span)])]⟩ (o1 (And.intro (And.intro (show 0 = ([] : List Span).length from rfl) (show 0 = ([] : List Span).length from rfl)) (Nat.le_refl (([] : List Span).length)))) ?_
  obtain rfl := oi hm
  refine q_rt ?_
  exact q_rm
 ·replace hm := qC b4 hm
  refine q_sk ?_
  refine s_vn [] 2 ⟨[(2, vp 1 0)], [(1, bx 57 (qW a1))]⟩ ?_
  obtain rfl := oi hm
  refine q_rt ?_
  exact q_rm
def qJi (r : Int) : V := vi r
def qJt (r : Int) : List (Nat × (Nat × O)) := []
def LE (a2 : Rect) (v3 : qK) (x5 : Int) (x6 : Int) : St :=
 ⟨[(2, vp 0 0), (3, vp 1 0), (5, vi x5), (6, vi x6)], [(0, bx 57 (qW v3)), (1, bx 28 (qE a2))]⟩
def CW (x15 : Int) : St :=
 ⟨[(5, vi x15)], []⟩
theorem qEL (E : Env 0) (a2 : Rect) (v3 : qK) : ∀ (n : Nat) (x5 : Int) (x6 : Int) (res : Int), JR a2 v3 n x5 x6 = some res → HL (kx E 36 0) (nd Tryz.f52 244) (wC 0 (fun o => CW o) res) n (LE a2 v3 x5 x6) := by
 intro n
 induction n with
 | zero =>
  intro x5 x6 res hm
  cases hm
 | succ n ih =>
  intro x5 x6 res hm
  refine qQ ?_
  refine q_sq ?_
  refine s_vu [] 2 [] [(13, vb (decide (x6 < ((v3.Rows.length : Nat) : Int))))] [] [] ?_
  refine q_cn (decide (x6 < ((v3.Rows.length : Nat) : Int))) (fun b7 => ?_) (fun b7 => ?_)
  ·replace hm := qB b7 hm
   refine q_sk ?_
   refine q_sq ?_
   refine q_bk 1 ?_
   obtain ⟨g8, hm⟩ := qM hm
   obtain ⟨v9, h10, hm⟩ := qD hm
   obtain ⟨v11, h12, hm⟩ := qD hm
   obtain ⟨v13, h14, hm⟩ := qD hm
   refine q_du [qd 4 (Dir.none) (inb_of g8), qc 8 [21, 23] 2 (qCf (v3.Rows.getD x6.toNat default) a2.X v9 h10), qc 13 [28] 2 (qGS (w64 (v3.Low + x6)) v11 h12), qc 16 [29, 31] 2 (qCf v11 a2.Y v13 h14)] [0, 0, 2, 0, 14, 30, 0, 64, 254, 0, 512, 0, 3584, 8190, 0, 16384, 65534, 131070, 262143, 524287] 2 [5, 13] [(5, vi (w64 (x5 + (w64 (v9 * v13)))))] [] [] ?_
   refine q_vu [] 2 [6] [(6, vi (w64 (x6 + 1)))] [] [] ?_
   exact q_hl (LE a2 v3 (w64 (x5 + (w64 (v9 * v13)))) (w64 (x6 + 1))) (ih (w64 (x5 + (w64 (v9 * v13)))) (w64 (x6 + 1)) _ hm)
  ·replace hm := qC b7 hm
   refine q_ex 0 ?_
   obtain rfl := oi hm
   exact jP (by kernel_rfl) (by kernel_rfl)
theorem qCM (a1 : qK) (a2 : Rect) (r : Int) (hm : RX a1 a2 = some r) : CtX Tryz.prog globs 52 0 0 [.agg (qW a1), .agg (qE a2)] [] (qJi r) (qJt r) := by
 unfold RX at hm
 refine q_E Tryz.f52 36 fun E => ?_
 refine s_vn [] 0 ⟨[(2, vp 0 0), (3, vp 1 0)], [(0, bx 57 (qW a1)), (1, bx 28 (qE a2))]⟩ ?_
 refine s_vu [] 2 [] [(5, vi 0)] [] [] ?_
 obtain ⟨v3, h4, hm⟩ := qD hm
 refine s_vu [qc 1 [7] 2 (qDu a1 v3 h4)] 2 [] [] [0] [(0, bx 57 (qW v3))] ?_
 refine q_sq ?_
 refine s_vu [] 2 [] [(6, vi 0)] [] [] ?_
 obtain ⟨o16, h17, hm⟩ := qD hm
 refine zX (nd Tryz.f52 244) 0 (by kernel_rfl) FUEL (fun o => CW o) o16 (q_hl (LE a2 v3 0 0) (qEL E a2 v3 FUEL 0 0 o16 h17)) ?_
 refine s_vn [] 2 ⟨[(4, vi o16)], []⟩ ?_
 obtain rfl := oi hm
 refine q_rt ?_
 exact q_rm
def CK (r : Int) : V := vi r
def CB (r : Int) : List (Nat × (Nat × O)) := []
def qBp (a1 : List Slice) (x4 : Int) (x5 : Int) (x13 : Bool) : St :=
 ⟨[(0, vc (tl qH default a1)), (3, vi x4), (4, vi x5), (50, vb x13)], []⟩
def HH (a1 : List Slice) (x4 : Int) (x5 : Int) : St :=
 ⟨[(0, vc (tl qH default a1)), (3, vi x4), (4, vi x5)], []⟩
def qBa : St :=
 ⟨[], []⟩
theorem qFT (E : Env 0) (a1 : List Slice) : ∀ (n : Nat) (x4 : Int) (x5 : Int) (res : Int ⊕ Unit), yJ a1 n x4 x5 = some res → HL (kx E 58 0) (nd Tryz.f35 500) (wN 0 (fun o => qBa) (fun v st => RetQ Tryz.prog Tryz.f35 (CK v) (CB v) .ret st) res) n (HH a1 x4 x5) := by
 intro n
 induction n with
 | zero =>
  intro x4 x5 res hm
  cases hm
 | succ n ih =>
  intro x4 x5 res hm
  refine qQ ?_
  refine q_sq ?_
  refine s_vu [] 0 [] [(15, vb (decide (x5 < ((a1.length : Nat) : Int))))] [] [] ?_
  refine q_cn (decide (x5 < ((a1.length : Nat) : Int))) (fun b6 => ?_) (fun b6 => ?_)
  ·replace hm := qB b6 hm
   refine q_sk ?_
   refine q_sq ?_
   refine q_bk 1 ?_
   refine q_sq ?_
   obtain ⟨g7, hm⟩ := qM hm
   obtain ⟨v8, h9, hm⟩ := qD hm
   refine s_vu [qd 2 (Dir.none) (inb_of g7), qc 5 [22] 0 (qDh ((a1.getD x5.toNat default).Sec) v8 h9)] 0 [15] [(5, vi v8)] [] [] ?_
   refine s_vu [] 0 [] [(25, vb (v8 != 0))] [] [] ?_
   refine q_cn (v8 != 0) (fun b10 => ?_) (fun b10 => ?_)
   ·replace hm := qB b10 hm
    refine s_vn [] 0 ⟨[(2, vi v8)], []⟩ ?_
    obtain rfl := oi hm
    refine q_rt ?_
    refine zB v8 ?_
    exact q_rm
   ·replace hm := qC b10 hm
    refine q_sk ?_
    refine q_sq ?_
    refine s_vu [qd 2 (Dir.none) (inb_of g7)] 0 [5, 25] [(34, vb ((((((a1.getD x5.toNat default).Sec).Rows).length : Nat) : Int) == 0))] [] [] ?_
    refine q_cn ((((((a1.getD x5.toNat default).Sec).Rows).length : Nat) : Int) == 0) (fun b11 => ?_) (fun b11 => ?_)
    ·replace hm := qB b11 hm
     refine s_vn [] 0 ⟨[(2, vi 18)], []⟩ ?_
     obtain rfl := oi hm
     refine q_rt ?_
     refine zB 18 ?_
     exact q_rm
    ·replace hm := qC b11 hm
     refine q_sk ?_
     refine q_sq ?_
     refine q_jn (ι := Bool) (fun p => qBp a1 x4 x5 p) (fun p => FA a1 x4 x5 (yJ a1 n) p = some res) ?_ ?_
     ·rintro x13 hm
      show H _ (qBp a1 x4 x5 x13) _ _
      refine q_cn x13 (fun b14 => ?_) (fun b14 => ?_)
      ·replace hm := qB b14 hm
       refine s_vn [] 0 ⟨[(2, vi 9)], []⟩ ?_
       obtain rfl := oi hm
       refine q_rt ?_
       refine zB 9 ?_
       exact q_rm
      ·replace hm := qC b14 hm
       refine q_sk ?_
       refine q_vu [qd 3 (Dir.none) (inb_of g7)] 0 [3, 50] [(3, vi (w64 (x4 + ((a1.getD x5.toNat default).Len))))] [] [] ?_
       refine q_vu [] 0 [4] [(4, vi (w64 (x5 + 1)))] [] [] ?_
       exact q_hl (HH a1 (w64 (x4 + ((a1.getD x5.toNat default).Len))) (w64 (x5 + 1))) (ih (w64 (x4 + ((a1.getD x5.toNat default).Len))) (w64 (x5 + 1)) _ hm)
     ·rcases Bool.eq_false_or_eq_true (decide (((a1.getD x5.toNat default).Len) < 1)) with b12 | b12
      ·replace hm := qB b12 hm
       refine q_vu [qd 2 (Dir.none) (inb_of g7), qf 6 b12] 0 [34] [(50, vb true)] [] [] ?_
       exact q_J (true) hm
      ·replace hm := qC b12 hm
       refine q_vu [qd 2 (Dir.none) (inb_of g7), qf 6 b12, qd 9 (Dir.none) (inb_of g7)] 0 [34] [(50, vb (decide (((a1.getD x5.toNat default).Len) > (w64 (20000 - x4)))))] [] [] ?_
       exact q_J (decide (((a1.getD x5.toNat default).Len) > (w64 (20000 - x4)))) hm
  ·replace hm := qC b6 hm
   refine q_ex 0 ?_
   obtain rfl := oi hm
   exact wR () (by kernel_rfl) (by kernel_rfl)
theorem wO (a1 : List Slice) (r : Int) (hm : QO a1 = some r) : CtX Tryz.prog globs 35 0 0 [.one (tl qH default a1)] [] (CK r) (CB r) := by
 unfold QO at hm
 refine q_E Tryz.f35 58 fun E => ?_
 refine s_vn [] 0 ⟨[(0, vc (tl qH default a1))], []⟩ ?_
 refine q_sq ?_
 refine s_vu [] 0 [] [(8, vb (((a1.length : Nat) : Int) == 0))] [] [] ?_
 refine q_cn (((a1.length : Nat) : Int) == 0) (fun b2 => ?_) (fun b2 => ?_)
 ·replace hm := qB b2 hm
  refine s_vn [] 0 ⟨[(2, vi 3)], []⟩ ?_
  obtain rfl := oi hm
  refine q_rt ?_
  exact q_rm
 ·replace hm := qC b2 hm
  refine q_sk ?_
  refine q_sq ?_
  refine s_vu [] 0 [8] [(11, vb (decide (((a1.length : Nat) : Int) > 24)))] [] [] ?_
  refine q_cn (decide (((a1.length : Nat) : Int) > 24)) (fun b3 => ?_) (fun b3 => ?_)
  ·replace hm := qB b3 hm
   refine s_vn [] 0 ⟨[(2, vi 4)], []⟩ ?_
   obtain rfl := oi hm
   refine q_rt ?_
   exact q_rm
  ·replace hm := qC b3 hm
   refine q_sk ?_
   refine s_vu [] 0 [11] [(3, vi 0)] [] [] ?_
   refine q_sq ?_
   refine s_vu [] 0 [] [(4, vi 0)] [] [] ?_
   obtain ⟨u17, h16, hm⟩ := qD hm
   refine zP (nd Tryz.f35 500) 0 (by kernel_rfl) FUEL (fun o => qBa) (fun v st => RetQ Tryz.prog Tryz.f35 (CK v) (CB v) .ret st) u17 (q_hl (HH a1 0 0) (qFT E a1 FUEL 0 0 u17 h16)) ?_ ?_
   ·rintro v18 rfl st hr
    obtain rfl := oi hm
    exact hr
   ·rintro o15 rfl
    replace hm : _ = some r := hm
    refine s_vn [] 0 ⟨[(2, vi 0)], []⟩ ?_
    obtain rfl := oi hm
    refine q_rt ?_
    exact q_rm
def qJy (r : Int) : V := vi r
def qJR (r : Int) : List (Nat × (Nat × O)) := []
def qAb (a1 : List Slice) (a2 : Box) (x11 : Int) (x12 : Int) (x20 : Int) : St :=
 ⟨[(0, vc (tl qH default a1)), (3, vp 0 0), (5, vi x20), (6, vi x11), (7, vi x12)], [(0, bx 67 (zC a2))]⟩
def LD (a1 : List Slice) (a2 : Box) (x10 : Int) (x11 : Int) (x12 : Int) : St :=
 ⟨[(0, vc (tl qH default a1)), (3, vp 0 0), (5, vi x10), (6, vi x11), (7, vi x12)], [(0, bx 67 (zC a2))]⟩
def qAG (x21 : Int) : St :=
 ⟨[(5, vi x21)], []⟩
def qAr (a1 : List Slice) (a2 : Box) (x8 : Bool) : St :=
 ⟨[(0, vc (tl qH default a1)), (3, vp 0 0), (39, vb x8)], [(0, bx 67 (zC a2))]⟩
theorem qFn (E : Env 0) (a1 : List Slice) (a2 : Box) : ∀ (n : Nat) (x10 : Int) (x11 : Int) (x12 : Int) (res : Int), yS a1 a2 n x10 x11 x12 = some res → HL (kx E 88 0) (nd Tryz.f24 244) (wC 0 (fun o => qAG o) res) n (LD a1 a2 x10 x11 x12) := by
 intro n
 induction n with
 | zero =>
  intro x10 x11 x12 res hm
  cases hm
 | succ n ih =>
  intro x10 x11 x12 res hm
  refine qQ ?_
  refine q_sq ?_
  refine s_vu [] 1 [] [(43, vb (decide (x12 < ((a1.length : Nat) : Int))))] [] [] ?_
  refine q_cn (decide (x12 < ((a1.length : Nat) : Int))) (fun b13 => ?_) (fun b13 => ?_)
  ·replace hm := qB b13 hm
   refine q_sk ?_
   refine q_sq ?_
   refine q_bk 1 ?_
   refine s_vu [] 1 [43] [(8, vp 1 0)] [] [(1, bx 26 [ci (imax a2.Z.A 0), ci (imin a2.Z.B 20000)])] ?_
   obtain ⟨g14, hm⟩ := qM hm
   obtain ⟨v15, h16, hm⟩ := qD hm
   refine s_du [qd 4 (Dir.none) (inb_of g14), qc 7 [55, 56, 61] 2 (qEi (Span.mk (imax a2.Z.A 0) (imin a2.Z.B 20000)) x11 ((a1.getD x12.toNat default).Len) v15 h16)] [0, 0, 0, 0, 12, 28, 60, 127, 255] 2 [8] [(9, vi v15)] [1] [] ?_
   refine q_jn (ι := Int) (fun p => qAb a1 a2 x11 x12 p) (fun p => DA a1 x11 x12 (yS a1 a2 n) p = some res) ?_ ?_
   ·rintro x20 hm
    show H _ (qAb a1 a2 x11 x12 x20) _ _
    refine q_vu [qd 3 (Dir.none) (inb_of g14)] 2 [6] [(6, vi (w64 (x11 + ((a1.getD x12.toNat default).Len))))] [] [] ?_
    refine q_vu [] 2 [7] [(7, vi (w64 (x12 + 1)))] [] [] ?_
    exact q_hl (LD a1 a2 x20 (w64 (x11 + ((a1.getD x12.toNat default).Len))) (w64 (x12 + 1))) (ih x20 (w64 (x11 + ((a1.getD x12.toNat default).Len))) (w64 (x12 + 1)) _ hm)
   ·refine s_vu [] 2 [] [(64, vb (decide (v15 > 0)))] [] [] ?_
    refine q_cn (decide (v15 > 0)) (fun b17 => ?_) (fun b17 => ?_)
    ·replace hm := qB b17 hm
     obtain ⟨v18, h19, hm⟩ := qD hm
     refine q_du [qd 4 (Dir.none) (inb_of g14), qc 12 [71, 76] 2 (qCM ((a1.getD x12.toNat default).Sec) (Rect.mk a2.X a2.Y) v18 h19)] [0, 0, 0, 0, 12, 28, 60, 0, 128, 0, 512, 1920, 4092, 8190, 16383, 32767] 2 [5, 9, 64] [(5, vi (w64 (x10 + (w64 (v15 * v18)))))] [] [] ?_
     exact q_J (w64 (x10 + (w64 (v15 * v18)))) hm
    ·replace hm := qC b17 hm
     refine q_sk ?_
     exact q_J (x10) hm
  ·replace hm := qC b13 hm
   refine q_ex 0 ?_
   obtain rfl := oi hm
   exact jP (by kernel_rfl) (by kernel_rfl)
theorem GK (a1 : List Slice) (a2 : Box) (r : Int) (hm : JA a1 a2 = some r) : CtX Tryz.prog globs 24 0 0 [.one (tl qH default a1), .agg (zC a2)] [] (qJy r) (qJR r) := by
 unfold JA at hm
 refine q_E Tryz.f24 88 fun E => ?_
 refine s_vn [] 0 ⟨[(0, vc (tl qH default a1)), (3, vp 0 0)], [(0, bx 67 (zC a2))]⟩ ?_
 refine q_sq ?_
 refine q_jn (ι := Bool) (fun p => qAr a1 a2 p) (fun p => ZA a1 a2 p = some r) ?_ ?_
 ·rintro x8 hm
  show H _ (qAr a1 a2 x8) _ _
  refine q_cn x8 (fun b9 => ?_) (fun b9 => ?_)
  ·replace hm := qB b9 hm
   refine s_vn [] 1 ⟨[(4, vi 0)], []⟩ ?_
   obtain rfl := oi hm
   refine q_rt ?_
   exact q_rm
  ·replace hm := qC b9 hm
   refine q_sk ?_
   refine s_vu [] 1 [39] [(5, vi 0), (6, vi 0)] [] [] ?_
   refine q_sq ?_
   refine s_vu [] 1 [] [(7, vi 0)] [] [] ?_
   obtain ⟨o22, h23, hm⟩ := qD hm
   refine zX (nd Tryz.f24 244) 0 (by kernel_rfl) FUEL (fun o => qAG o) o22 (q_hl (LD a1 a2 0 0 0) (qFn E a1 a2 FUEL 0 0 0 o22 h23)) ?_
   refine s_vn [] 1 ⟨[(4, vi o22)], []⟩ ?_
   obtain rfl := oi hm
   refine q_rt ?_
   exact q_rm
 ·obtain ⟨v3, h4, hm⟩ := qD hm
  rcases Bool.eq_false_or_eq_true (v3 != 0) with b5 | b5
  ·replace hm := qB b5 hm
   refine q_vu [qc 1 [10] 1 (wO a1 v3 h4), qf 3 b5] 1 [] [(39, vb true)] [] [] ?_
   exact q_J (true) hm
  ·replace hm := qC b5 hm
   rcases Bool.eq_false_or_eq_true (decide (a2.X.A ≥ a2.X.B)) with b6 | b6
   ·replace hm := qB b6 hm
    refine q_vu [qc 1 [10] 1 (wO a1 v3 h4), qf 3 b5, qf 12 b6] 1 [] [(39, vb true)] [] [] ?_
    exact q_J (true) hm
   ·replace hm := qC b6 hm
    rcases Bool.eq_false_or_eq_true (decide (a2.Y.A ≥ a2.Y.B)) with b7 | b7
    ·replace hm := qB b7 hm
     refine q_vu [qc 1 [10] 1 (wO a1 v3 h4), qf 3 b5, qf 12 b6, qf 21 b7] 1 [] [(39, vb true)] [] [] ?_
     exact q_J (true) hm
    ·replace hm := qC b7 hm
     refine q_vu [qc 1 [10] 1 (wO a1 v3 h4), qf 3 b5, qf 12 b6, qf 21 b7] 1 [] [(39, vb (decide (a2.Z.A ≥ a2.Z.B)))] [] [] ?_
     exact q_J (decide (a2.Z.A ≥ a2.Z.B)) hm
def qJF (r : Int) : V := vi r
def qI6 (r : Int) : List (Nat × (Nat × O)) := []
def FR (a1 : List Slice) (x5 : Int) (x6 : Int) : St :=
 ⟨[(0, vc (tl qH default a1)), (3, vi x5), (4, vi x6)], []⟩
def qAa (x9 : Int) : St :=
 ⟨[(3, vi x9)], []⟩
theorem qEy (E : Env 0) (a1 : List Slice) : ∀ (n : Nat) (x5 : Int) (x6 : Int) (res : Int), QZ a1 n x5 x6 = some res → HL (kx E 22 0) (nd Tryz.f43 244) (wC 0 (fun o => qAa o) res) n (FR a1 x5 x6) := by
 intro n
 induction n with
 | zero =>
  intro x5 x6 res hm
  cases hm
 | succ n ih =>
  intro x5 x6 res hm
  refine qQ ?_
  refine q_sq ?_
  refine s_vu [] 0 [] [(11, vb (decide (x6 < ((a1.length : Nat) : Int))))] [] [] ?_
  refine q_cn (decide (x6 < ((a1.length : Nat) : Int))) (fun b7 => ?_) (fun b7 => ?_)
  ·replace hm := qB b7 hm
   refine q_sk ?_
   refine q_sq ?_
   refine q_bk 1 ?_
   obtain ⟨g8, hm⟩ := qM hm
   refine q_vu [qd 3 (Dir.none) (inb_of g8)] 0 [3, 11] [(3, vi (w64 (x5 + ((a1.getD x6.toNat default).Len))))] [] [] ?_
   refine q_vu [] 0 [4] [(4, vi (w64 (x6 + 1)))] [] [] ?_
   exact q_hl (FR a1 (w64 (x5 + ((a1.getD x6.toNat default).Len))) (w64 (x6 + 1))) (ih (w64 (x5 + ((a1.getD x6.toNat default).Len))) (w64 (x6 + 1)) _ hm)
  ·replace hm := qC b7 hm
   refine q_ex 0 ?_
   obtain rfl := oi hm
   exact jP (by kernel_rfl) (by kernel_rfl)
theorem DF (a1 : List Slice) (r : Int) (hm : WZ a1 = some r) : CtX Tryz.prog globs 43 0 0 [.one (tl qH default a1)] [] (qJF r) (qI6 r) := by
 unfold WZ at hm
 refine q_E Tryz.f43 22 fun E => ?_
 refine s_vn [] 0 ⟨[(0, vc (tl qH default a1))], []⟩ ?_
 refine q_sq ?_
 obtain ⟨v2, h3, hm⟩ := qD hm
 refine s_vu [qc 1 [5] 0 (wO a1 v2 h3)] 0 [] [(7, vb (v2 != 0))] [] [] ?_
 refine q_cn (v2 != 0) (fun b4 => ?_) (fun b4 => ?_)
 ·replace hm := qB b4 hm
  refine s_vn [] 0 ⟨[(2, vi 0)], []⟩ ?_
  obtain rfl := oi hm
  refine q_rt ?_
  exact q_rm
 ·replace hm := qC b4 hm
  refine q_sk ?_
  refine s_vu [] 0 [7] [(3, vi 0)] [] [] ?_
  refine q_sq ?_
  refine s_vu [] 0 [] [(4, vi 0)] [] [] ?_
  obtain ⟨o10, h11, hm⟩ := qD hm
  refine zX (nd Tryz.f43 244) 0 (by kernel_rfl) FUEL (fun o => qAa o) o10 (q_hl (FR a1 0 0) (qEy E a1 FUEL 0 0 o10 h11)) ?_
  refine s_vn [] 0 ⟨[(2, vi o10)], []⟩ ?_
  obtain rfl := oi hm
  refine q_rt ?_
  exact q_rm
def qIe (r : Int) : V := vi r
def qHT (r : Int) : List (Nat × (Nat × O)) := []
theorem qGM (a1 : List Slice) (a2 : Box) (a3 : Int) (r : Int) (hm : UY a1 a2 a3 = some r) : CtX Tryz.prog globs 25 0 0 [.one (tl qH default a1), .agg (zC a2), .one (ci a3)] [] (qIe r) (qHT r) := by
 unfold UY at hm
 refine q_E Tryz.f25 50 fun E => ?_
 refine s_vn [] 0 ⟨[(0, vc (tl qH default a1)), (2, vi a3), (4, vp 0 0)], [(0, bx 67 (zC a2))]⟩ ?_
 obtain ⟨v4, h5, hm⟩ := qD hm
 refine s_vu [qc 1 [10] 1 (DF a1 v4 h5)] 1 [] [(7, vi v4)] [] [] ?_
 refine s_vu [] 1 [] [(8, vp 1 0)] [] [(1, bx 67 [ci a2.X.A, ci a2.X.B, ci a2.Y.A, ci a2.Y.B, ci (imax 0 (w64 (a2.Z.A - a3))), ci a2.Z.A])] ?_
 refine s_vu [] 2 [2, 4, 7] [(9, vp 2 0)] [0] [(2, bx 67 [ci a2.X.A, ci a2.X.B, ci a2.Y.A, ci a2.Y.B, ci a2.Z.B, ci (imin (w64 (a2.Z.B + a3)) v4)])] ?_
 obtain ⟨v6, h7, hm⟩ := qD hm
 obtain ⟨v8, h9, hm⟩ := qD hm
 refine s_dn [qc 2 [43, 44] 3 (GK a1 (Box.mk a2.X a2.Y (Span.mk (imax 0 (w64 (a2.Z.A - a3))) a2.Z.A)) v6 h7), qc 5 [46, 47] 3 (GK a1 (Box.mk a2.X a2.Y (Span.mk a2.Z.B (imin (w64 (a2.Z.B + a3)) v4))) v8 h9)] [0, 0, 3, 0, 0, 31, 63, 127] 3 ⟨[(6, vi (w64 (v6 + v8)))], []⟩ ?_
 obtain rfl := oi hm
 refine q_rt ?_
 exact q_rm
def qLp (r : Box) : V := va (zC r)
def qK6 (r : Box) : List (Nat × (Nat × O)) := []
theorem qJ6 (a1 : List Slice) (a2 : Rect) (r : Box) (hm : IS a1 a2 = some r) : CtX Tryz.prog globs 26 0 0 [.one (tl qH default a1), .agg (qE a2)] [] (qLp r) (qK6 r) := by
 unfold IS at hm
 refine q_E Tryz.f26 13 fun E => ?_
 refine s_vn [] 0 ⟨[(0, vc (tl qH default a1)), (3, vp 0 0), (4, vp 1 0)], [(0, bx 28 (qE a2)), (1, bx 67 [ci 0, ci 0, ci 0, ci 0, ci 0, ci 0])]⟩ ?_
 obtain ⟨v3, h4, hm⟩ := qD hm
 refine s_dn [qc 5 [9] 2 (DF a1 v3 h4)] [0, 1, 0, 4, 0, 16, 48, 127, 255] 2 ⟨[(4, vp 1 0)], [(1, bx 67 [ci a2.X.A, ci a2.X.B, ci a2.Y.A, ci a2.Y.B, ci 0, ci v3])]⟩ ?_
 obtain rfl := oi hm
 refine q_rt ?_
 exact q_rm
def qLA (r : Bool) : V := vb r
def qLt (r : Bool) : List (Nat × (Nat × O)) := []
def qBN (x4 : Bool) : St :=
 ⟨[(2, vb x4)], []⟩
theorem qDe (a1 : Box) (r : Bool) (hm : GC a1 = some r) : CtX Tryz.prog globs 70 0 0 [.agg (zC a1)] [] (qLA r) (qLt r) := by
 unfold GC at hm
 refine q_E Tryz.f70 28 fun E => ?_
 refine s_vn [] 0 ⟨[(1, vp 0 0)], [(0, bx 67 (zC a1))]⟩ ?_
 refine q_jn (ι := Bool) (fun p => qBN p) (fun p => RK p = some r) ?_ ?_
 ·rintro x4 hm
  show H _ (qBN x4) _ _
  obtain rfl := oi hm
  refine q_rt ?_
  exact q_rm
 ·rcases Bool.eq_false_or_eq_true (decide (a1.X.A ≥ a1.X.B)) with b2 | b2
  ·replace hm := qB b2 hm
   refine q_vn [qf 7 b2] 1 ⟨[(2, vb true)], []⟩ ?_
   exact q_J (true) hm
  ·replace hm := qC b2 hm
   rcases Bool.eq_false_or_eq_true (decide (a1.Y.A ≥ a1.Y.B)) with b3 | b3
   ·replace hm := qB b3 hm
    refine q_vn [qf 7 b2, qf 16 b3] 1 ⟨[(2, vb true)], []⟩ ?_
    exact q_J (true) hm
   ·replace hm := qC b3 hm
    refine q_vn [qf 7 b2, qf 16 b3] 1 ⟨[(2, vb (decide (a1.Z.A ≥ a1.Z.B)))], []⟩ ?_
    exact q_J (decide (a1.Z.A ≥ a1.Z.B)) hm
def qOJ (r : Bool) : V := vb r
def qOx (r : Bool) : List (Nat × (Nat × O)) := []
def qEg (x5 : Bool) : St :=
 ⟨[(6, vb x5)], []⟩
theorem VL (a1 : Span) (a2 : Int) (a3 : Int) (r : Bool) (hm : HP a1 a2 a3 = some r) : CtX Tryz.prog globs 112 0 0 [.agg (e_Span a1), .one (ci a2), .one (ci a3)] [] (qOJ r) (qOx r) := by
 unfold HP at hm
 refine q_E Tryz.f112 17 fun E => ?_
 refine s_vn [] 0 ⟨[(1, vi a2), (2, vi a3), (3, vp 0 0)], [(0, bx 26 (e_Span a1))]⟩ ?_
 refine q_jn (ι := Bool) (fun p => qEg p) (fun p => IP p = some r) ?_ ?_
 ·rintro x5 hm
  show H _ (qEg x5) _ _
  obtain rfl := oi hm
  refine q_rt ?_
  exact q_rm
 ·rcases Bool.eq_false_or_eq_true (decide (a2 ≤ a1.A)) with b4 | b4
  ·replace hm := qB b4 hm
   refine q_vn [qf 4 b4] 1 ⟨[(6, vb (decide (a1.B ≤ a3)))], []⟩ ?_
   exact q_J (decide (a1.B ≤ a3)) hm
  ·replace hm := qC b4 hm
   refine q_vn [qf 4 b4] 1 ⟨[(6, vb false)], []⟩ ?_
   exact q_J (false) hm
end Saw
end Go.SL
