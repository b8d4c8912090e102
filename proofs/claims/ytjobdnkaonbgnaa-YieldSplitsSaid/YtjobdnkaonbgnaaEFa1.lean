import Derived.Test.YtjobdnkaonbgnaaEBase
set_option linter.unusedVariables false
set_option linter.unusedSimpArgs false
namespace Go.SL
namespace Saw
open Go.Proofs
set_option maxHeartbeats 4000000
set_option maxRecDepth 100000
def qG3 (r : Box) : V := va (jY r)
def qHa (r : Box) : List (Nat × (Nat × O)) := []
theorem DZ (a1 : Rect) (a2 : Span) (r : Box) (hm : JP a1 a2 = some r) : CtX Try.prog globs 39 0 0 [.agg (qK a1), .agg (e_Span a2)] [] (qG3 r) (qHa r) := by
 unfold JP at hm
 refine q_E Try.f39 11 fun E => ?_
 refine q_sq ?_
 refine q_vn [] 0 ⟨[(2, vp 0 0), (3, vp 1 0), (4, vp 2 0)], [(0, bx 28 (qK a1)), (1, bx 26 (e_Span a2)), (2, bx 52 [ci 0, ci 0, ci 0, ci 0, ci 0, ci 0])]⟩ ?_
 refine q_sq ?_
 refine q_vn [] 3 ⟨[(4, vp 2 0)], [(2, bx 52 [ci a1.X.A, ci a1.X.B, ci a1.Y.A, ci a1.Y.B, ci a2.A, ci a2.B])]⟩ ?_
 obtain rfl := Option.some.inj hm
 refine q_rt ?_
 exact q_rm
def qG1 (r : Span) : V := va (e_Span r)
def qHe (r : Span) : List (Nat × (Nat × O)) := []
theorem XN (a1 : Span) (a2 : Span) (r : Span) (hm : ZZ a1 a2 = some r) : CtX Try.prog globs 31 0 0 [.agg (e_Span a1), .agg (e_Span a2)] [] (qG1 r) (qHe r) := by
 unfold ZZ at hm
 refine q_E Try.f31 24 fun E => ?_
 refine q_sq ?_
 refine q_vn [] 0 ⟨[(2, vp 0 0), (3, vp 1 0), (4, vp 2 0)], [(0, bx 26 (e_Span a1)), (1, bx 26 (e_Span a2)), (2, bx 26 [ci 0, ci 0])]⟩ ?_
 refine q_sq ?_
 refine q_vu [] 3 [2, 3] [(5, vp 3 0)] [0, 1] [(3, bx 26 [ci (imax a1.A a2.A), ci (imin a1.B a2.B)])] ?_
 refine q_sq ?_
 refine q_sq ?_
 refine q_vu [] 4 [] [(21, vb (decide ((imax a1.A a2.A) ≥ (imin a1.B a2.B))))] [] [] ?_
 refine q_cn (decide ((imax a1.A a2.A) ≥ (imin a1.B a2.B))) (fun b3 => ?_) (fun b3 => ?_)
 ·replace hm := qA b3 hm
  refine q_sq ?_
  refine q_vu [] 4 [5, 21] [] [3] [] ?_
  obtain rfl := Option.some.inj hm
  refine q_rt ?_
  exact q_rm
 ·replace hm := qB b3 hm
  refine q_sk ?_
  refine q_sq ?_
  refine q_vn [] 4 ⟨[(4, vp 2 0)], [(2, bx 26 [ci (imax a1.A a2.A), ci (imin a1.B a2.B)])]⟩ ?_
  obtain rfl := Option.some.inj hm
  refine q_rt ?_
  exact q_rm
set_option maxRecDepth 100000
def qG4 (r : Int) : V := vc (.val (.int .u64 r))
def qG9 (r : Int) : List (Nat × (Nat × O)) := []
theorem qGq (a1 : Span) (r : Int) (hm : AI a1 = some r) : CtX Try.prog globs 49 0 0 [.agg (e_Span a1)] [] (qG4 r) (qG9 r) := by
 unfold AI at hm
 refine q_E Try.f49 15 fun E => ?_
 refine q_sq ?_
 refine q_vn [] 0 ⟨[(1, vp 0 0)], [(0, bx 26 (e_Span a1))]⟩ ?_
 refine q_sq ?_
 refine q_sq ?_
 refine q_vu [] 1 [] [(7, vb (decide (a1.A ≥ a1.B)))] [] [] ?_
 refine q_cn (decide (a1.A ≥ a1.B)) (fun b2 => ?_) (fun b2 => ?_)
 ·replace hm := qA b2 hm
  refine q_sq ?_
  refine q_vn [] 1 ⟨[(2, vc (.val (.int .u64 0)))], []⟩ ?_
  obtain rfl := Option.some.inj hm
  refine q_rt ?_
  exact q_rm
 ·replace hm := qB b2 hm
  refine q_sk ?_
  refine q_sq ?_
  refine q_vn [] 1 ⟨[(2, vc (.val (.int .u64 (IntKind.u64.wrap ((IntKind.u64.wrap (a1.B)) - (IntKind.u64.wrap (a1.A)))))))], []⟩ ?_
  obtain rfl := Option.some.inj hm
  refine q_rt ?_
  exact q_rm
open Go.Proofs
set_option maxHeartbeats 4000000
set_option maxRecDepth 100000
def qDJ (r : Int) : V := vi r
def qDI (r : Int) : List (Nat × (Nat × O)) := []
theorem qCL (a1 : Int) (r : Int) (hm : BJ a1 = some r) : CtX Try.prog globs 48 0 0 [.one (.val (.int .u64 a1))] [] (qDJ r) (qDI r) := by
 unfold BJ at hm
 refine q_E Try.f48 6 fun E => ?_
 refine q_sq ?_
 refine q_vn [] 0 ⟨[(0, vc (.val (.int .u64 a1)))], []⟩ ?_
 refine q_sq ?_
 refine q_vn [] 0 ⟨[(2, vi (w64 (imin a1 9223372036854775807)))], []⟩ ?_
 obtain rfl := Option.some.inj hm
 refine q_rt ?_
 exact q_rm
def qH5 (r : Int) : V := vi r
def qIc (r : Int) : List (Nat × (Nat × O)) := []
theorem PM (a1 : Span) (r : Int) (hm : ZO a1 = some r) : CtX Try.prog globs 30 0 0 [.agg (e_Span a1)] [] (qH5 r) (qIc r) := by
 unfold ZO at hm
 refine q_E Try.f30 6 fun E => ?_
 refine q_sq ?_
 refine q_vn [] 0 ⟨[(1, vp 0 0)], [(0, bx 26 (e_Span a1))]⟩ ?_
 refine q_sq ?_
 obtain ⟨v2, h3, hm⟩ := qC hm
 obtain ⟨v4, h5, hm⟩ := qC hm
 refine q_vn [qc 1 [3] 1 (qGq a1 v2 h3), qc 2 [4] 1 (qCL v2 v4 h5)] 1 ⟨[(2, vi v4)], []⟩ ?_
 obtain rfl := Option.some.inj hm
 refine q_rt ?_
 exact q_rm
set_option maxRecDepth 100000
def qBp (r : Span) : V := va (e_Span r)
def qBr (r : Span) : List (Nat × (Nat × O)) := []
theorem qAc (a1 : Int) (a2 : Int) (r : Span) (hm : YB a1 a2 = some r) : CtX Try.prog globs 50 0 0 [.one (ci a1), .one (ci a2)] [] (qBp r) (qBr r) := by
 unfold YB at hm
 refine q_E Try.f50 10 fun E => ?_
 refine q_sq ?_
 refine q_vn [] 0 ⟨[(0, vi a1), (1, vi a2), (4, vp 0 0)], [(0, bx 26 [ci 0, ci 0])]⟩ ?_
 refine q_sq ?_
 refine q_vu [] 1 [0, 1] [] [0] [(0, bx 26 [ci (w64 (10 * a1)), ci (w64 (10 * a2))])] ?_
 obtain rfl := Option.some.inj hm
 refine q_rt ?_
 exact q_rm
open Go.Proofs
set_option maxHeartbeats 4000000
set_option maxRecDepth 100000
def qBc (r : Bool) : V := vb r
def qBj (r : Bool) : List (Nat × (Nat × O)) := []
def BL (x3 : Bool) : St :=
 ⟨[(2, vb x3)], []⟩
theorem qAM (a1 : Span) (r : Bool) (hm : YA a1 = some r) : CtX Try.prog globs 85 0 0 [.agg (e_Span a1)] [] (qBc r) (qBj r) := by
 unfold YA at hm
 refine q_E Try.f85 17 fun E => ?_
 refine q_sq ?_
 refine q_vn [] 0 ⟨[(1, vp 0 0)], [(0, bx 26 (e_Span a1))]⟩ ?_
 refine q_jn (ι := Bool) (fun p => BL p) (fun p => JY p = some r) ?_ ?_
 ·rintro x3 hm
  show H _ (BL x3) _ _
  obtain rfl := Option.some.inj hm
  refine q_rt ?_
  exact q_rm
 ·rcases Bool.eq_false_or_eq_true (decide ((imin a1.A a1.B) ≥ (-600))) with b2 | b2
  ·replace hm := qA b2 hm
   refine q_vn [qf 6 b2] 1 ⟨[(2, vb (decide ((imax a1.A a1.B) ≤ 600)))], []⟩ ?_
   exact q_J (decide ((imax a1.A a1.B) ≤ 600)) hm
  ·replace hm := qB b2 hm
   refine q_vn [qf 6 b2] 1 ⟨[(2, vb false)], []⟩ ?_
   exact q_J (false) hm
def qBh (r : Bool) : V := vb r
def qBi (r : Bool) : List (Nat × (Nat × O)) := []
theorem ZC (a1 : Span) (r : Bool) (hm : ZM a1 = some r) : CtX Try.prog globs 86 0 0 [.agg (e_Span a1)] [] (qBh r) (qBi r) := by
 unfold ZM at hm
 refine q_E Try.f86 8 fun E => ?_
 refine q_sq ?_
 refine q_vn [] 0 ⟨[(1, vp 0 0)], [(0, bx 26 (e_Span a1))]⟩ ?_
 refine q_sq ?_
 refine q_vn [] 1 ⟨[(2, vb (decide (a1.A ≥ a1.B)))], []⟩ ?_
 obtain rfl := Option.some.inj hm
 refine q_rt ?_
 exact q_rm
set_option maxRecDepth 100000
def YD (r : Int) : V := vi r
def JZ (r : Int) : List (Nat × (Nat × O)) := []
def RT (a1 : qI) (x6 : Int) : St :=
 ⟨[(1, vp 0 0), (3, vi ((a1.Rows.length : Nat) : Int)), (24, vc (tl e_Span default a1.Rows)), (25, vi ((a1.Rows.length : Nat) : Int)), (26, vi x6)], [(0, bx 66 (zW a1))]⟩
def LE (a1 : qI) : St :=
 ⟨[(1, vp 0 0), (3, vi ((a1.Rows.length : Nat) : Int))], [(0, bx 66 (zW a1))]⟩
def FO (a1 : qI) (x27 : Int) (x33 : Bool) : St :=
 ⟨[(54, vc (tl e_Span default a1.Rows)), (55, vi ((a1.Rows.length : Nat) : Int)), (56, vi x27), (66, vb x33)], []⟩
def TI (a1 : qI) (x27 : Int) : St :=
 ⟨[(54, vc (tl e_Span default a1.Rows)), (55, vi ((a1.Rows.length : Nat) : Int)), (56, vi x27)], []⟩
def LM : St :=
 ⟨[], []⟩
def FP (a1 : qI) (x25 : Bool) : St :=
 ⟨[(1, vp 0 0), (52, vb x25)], [(0, bx 66 (zW a1))]⟩
def FX (a1 : qI) (x4 : Bool) : St :=
 ⟨[(1, vp 0 0), (3, vi ((a1.Rows.length : Nat) : Int)), (22, vb x4)], [(0, bx 66 (zW a1))]⟩
theorem CM (E : Env 0) (a1 : qI) : ∀ (n : Nat) (x6 : Int) (res : Int ⊕ Unit), jP a1 n x6 = some res → HL (kx E 68 0) (nd Try.f65 500) (yY 0 (fun o => LE a1) (fun v st => RetQ Try.prog Try.f65 (YD v) (JZ v) .ret st) res) n (RT a1 x6) := by
 intro n
 induction n with
 | zero =>
  intro x6 res hm
  cases hm
 | succ n ih =>
  intro x6 res hm
  refine qU ?_
  refine q_sq ?_
  refine q_vu [] 1 [] [(27, vb (decide (x6 < ((a1.Rows.length : Nat) : Int))))] [] [] ?_
  refine q_sq ?_
  refine q_cn (decide (x6 < ((a1.Rows.length : Nat) : Int))) (fun b7 => ?_) (fun b7 => ?_)
  ·replace hm := qA b7 hm
   refine q_sk ?_
   refine q_sq ?_
   refine q_bk 1 ?_
   refine q_sq ?_
   obtain ⟨g8, hm⟩ := qQ hm
   refine q_vu [qd 0 (Dir.none) (inb_of g8)] 1 [27] [(5, vp 1 0)] [] [(1, bx 26 [ci ((a1.Rows.getD x6.toNat default).A), ci ((a1.Rows.getD x6.toNat default).B)])] ?_
   refine q_sq ?_
   obtain ⟨v9, h10, hm⟩ := qC hm
   refine q_vu [qc 1 [30] 2 (qAM (a1.Rows.getD x6.toNat default) v9 h10)] 2 [5] [(32, vb (!v9))] [1] [] ?_
   refine q_cn (!v9) (fun b11 => ?_) (fun b11 => ?_)
   ·replace hm := qA b11 hm
    refine q_sq ?_
    refine q_vn [] 2 ⟨[(2, vi 9)], []⟩ ?_
    obtain rfl := Option.some.inj hm
    refine q_rt ?_
    refine zL 9 ?_
    exact q_rm
   ·replace hm := qB b11 hm
    refine q_sk ?_
    refine q_vu [] 2 [26, 32] [(26, vi (w64 (x6 + 1)))] [] [] ?_
    exact q_hl (RT a1 (w64 (x6 + 1))) (ih (w64 (x6 + 1)) _ hm)
  ·replace hm := qB b7 hm
   refine q_ex 0 ?_
   obtain rfl := Option.some.inj hm
   exact QW () (by kernel_rfl) (by kernel_rfl)
theorem CI (E : Env 0) (a1 : qI) : ∀ (n : Nat) (x27 : Int) (res : Int ⊕ Unit), wG a1 n x27 = some res → HL (kx E 68 0) (nd Try.f65 4084) (yY 2 (fun o => LM) (fun v st => RetQ Try.prog Try.f65 (YD v) (JZ v) .ret st) res) n (TI a1 x27) := by
 intro n
 induction n with
 | zero =>
  intro x27 res hm
  cases hm
 | succ n ih =>
  intro x27 res hm
  refine qU ?_
  refine q_sq ?_
  refine q_vu [] 1 [] [(57, vb (decide (x27 < ((a1.Rows.length : Nat) : Int))))] [] [] ?_
  refine q_sq ?_
  refine q_cn (decide (x27 < ((a1.Rows.length : Nat) : Int))) (fun b28 => ?_) (fun b28 => ?_)
  ·replace hm := qA b28 hm
   refine q_sk ?_
   refine q_sq ?_
   refine q_bk 3 ?_
   refine q_sq ?_
   obtain ⟨g29, hm⟩ := qQ hm
   refine q_vu [qd 0 (Dir.none) (inb_of g29)] 1 [57] [(7, vp 1 0)] [] [(1, bx 26 [ci ((a1.Rows.getD x27.toNat default).A), ci ((a1.Rows.getD x27.toNat default).B)])] ?_
   refine q_jn (ι := Bool) (fun p => FO a1 x27 p) (fun p => KK x27 (wG a1 n) p = some res) ?_ ?_
   ·rintro x33 hm
    show H _ (FO a1 x27 x33) _ _
    refine q_cn x33 (fun b34 => ?_) (fun b34 => ?_)
    ·replace hm := qA b34 hm
     refine q_sq ?_
     refine q_vn [] 2 ⟨[(2, vi 19)], []⟩ ?_
     obtain rfl := Option.some.inj hm
     refine q_rt ?_
     refine zL 19 ?_
     exact q_rm
    ·replace hm := qB b34 hm
     refine q_sk ?_
     refine q_vu [] 2 [56, 66] [(56, vi (w64 (x27 + 1)))] [] [] ?_
     exact q_hl (TI a1 (w64 (x27 + 1))) (ih (w64 (x27 + 1)) _ hm)
   ·obtain ⟨v30, h31, hm⟩ := qC hm
    rcases Bool.eq_false_or_eq_true v30 with b32 | b32
    ·replace hm := qA b32 hm
     refine q_vu [qc 1 [60] 2 (ZC (a1.Rows.getD x27.toNat default) v30 h31), qf 2 b32] 2 [7] [(66, vb (!((((a1.Rows.getD x27.toNat default).A) == 0) && ((((a1.Rows.getD x27.toNat default).B) == 0) && true))))] [1] [] ?_
     exact q_J (!((((a1.Rows.getD x27.toNat default).A) == 0) && ((((a1.Rows.getD x27.toNat default).B) == 0) && true))) hm
    ·replace hm := qB b32 hm
     refine q_vu [qc 1 [60] 2 (ZC (a1.Rows.getD x27.toNat default) v30 h31), qf 2 b32] 2 [7] [(66, vb false)] [1] [] ?_
     exact q_J (false) hm
  ·replace hm := qB b28 hm
   refine q_ex 2 ?_
   obtain rfl := Option.some.inj hm
   exact QW () (by kernel_rfl) (by kernel_rfl)
theorem HK (a1 : qI) (r : Int) (hm : JN a1 = some r) : CtX Try.prog globs 65 0 0 [.agg (zW a1)] [] (YD r) (JZ r) := by
 unfold JN at hm
 refine q_E Try.f65 68 fun E => ?_
 refine q_sq ?_
 refine q_vn [] 0 ⟨[(1, vp 0 0)], [(0, bx 66 (zW a1))]⟩ ?_
 refine q_sq ?_
 refine q_vu [] 1 [] [(3, vi ((a1.Rows.length : Nat) : Int))] [] [] ?_
 refine q_sq ?_
 refine q_sq ?_
 refine q_vu [] 1 [] [(12, vb (decide (((a1.Rows.length : Nat) : Int) > 120)))] [] [] ?_
 refine q_cn (decide (((a1.Rows.length : Nat) : Int) > 120)) (fun b2 => ?_) (fun b2 => ?_)
 ·replace hm := qA b2 hm
  refine q_sq ?_
  refine q_vn [] 1 ⟨[(2, vi 4)], []⟩ ?_
  obtain rfl := Option.some.inj hm
  refine q_rt ?_
  exact q_rm
 ·replace hm := qB b2 hm
  refine q_sk ?_
  refine q_sq ?_
  refine q_jn (ι := Bool) (fun p => FX a1 p) (fun p => KG a1 p = some r) ?_ ?_
  ·rintro x4 hm
   show H _ (FX a1 x4) _ _
   refine q_cn x4 (fun b5 => ?_) (fun b5 => ?_)
   ·replace hm := qA b5 hm
    refine q_sq ?_
    refine q_vn [] 1 ⟨[(2, vi 9)], []⟩ ?_
    obtain rfl := Option.some.inj hm
    refine q_rt ?_
    exact q_rm
   ·replace hm := qB b5 hm
    refine q_sk ?_
    refine q_sq ?_
    refine q_sq ?_
    refine q_vu [] 1 [22] [(24, vc (tl e_Span default a1.Rows)), (25, vi ((a1.Rows.length : Nat) : Int)), (26, vi 0)] [] [] ?_
    obtain ⟨u14, h13, hm⟩ := qC hm
    refine wL (nd Try.f65 500) 0 (by kernel_rfl) FUEL (fun o => LE a1) (fun v st => RetQ Try.prog Try.f65 (YD v) (JZ v) .ret st) u14 (q_hl (RT a1 0) (CM E a1 FUEL 0 u14 h13)) ?_ ?_
    ·rintro v15 rfl st hr
     obtain rfl := Option.some.inj hm
     exact hr
    ·rintro o12 rfl
     replace hm : _ = some r := hm
     refine q_sq ?_
     refine q_sq ?_
     refine q_vu [] 1 [] [(35, vb (((a1.Rows.length : Nat) : Int) == 0))] [] [] ?_
     refine q_cn (((a1.Rows.length : Nat) : Int) == 0) (fun b16 => ?_) (fun b16 => ?_)
     ·replace hm := qA b16 hm
      refine q_sq ?_
      refine q_sq ?_
      refine q_vn [] 1 ⟨[(38, vb (a1.Low != 0))], []⟩ ?_
      refine q_cn (a1.Low != 0) (fun b17 => ?_) (fun b17 => ?_)
      ·replace hm := qA b17 hm
       refine q_sq ?_
       refine q_vn [] 1 ⟨[(2, vi 19)], []⟩ ?_
       obtain rfl := Option.some.inj hm
       refine q_rt ?_
       exact q_rm
      ·replace hm := qB b17 hm
       refine q_sk ?_
       refine q_sq ?_
       refine q_vn [] 1 ⟨[(2, vi 0)], []⟩ ?_
       obtain rfl := Option.some.inj hm
       refine q_rt ?_
       exact q_rm
     ·replace hm := qB b16 hm
      refine q_sk ?_
      refine q_sq ?_
      refine q_jn (ι := Bool) (fun p => FP a1 p) (fun p => KT a1 p = some r) ?_ ?_
      ·rintro x25 hm
       show H _ (FP a1 x25) _ _
       refine q_cn x25 (fun b26 => ?_) (fun b26 => ?_)
       ·replace hm := qA b26 hm
        refine q_sq ?_
        refine q_vn [] 1 ⟨[(2, vi 19)], []⟩ ?_
        obtain rfl := Option.some.inj hm
        refine q_rt ?_
        exact q_rm
       ·replace hm := qB b26 hm
        refine q_sk ?_
        refine q_sq ?_
        refine q_sq ?_
        refine q_vn [] 1 ⟨[(54, vc (tl e_Span default a1.Rows)), (55, vi ((a1.Rows.length : Nat) : Int)), (56, vi 0)], []⟩ ?_
        obtain ⟨u37, h36, hm⟩ := qC hm
        refine wL (nd Try.f65 4084) 2 (by kernel_rfl) FUEL (fun o => LM) (fun v st => RetQ Try.prog Try.f65 (YD v) (JZ v) .ret st) u37 (q_hl (TI a1 0) (CI E a1 FUEL 0 u37 h36)) ?_ ?_
        ·rintro v38 rfl st hr
         obtain rfl := Option.some.inj hm
         exact hr
        ·rintro o35 rfl
         replace hm : _ = some r := hm
         refine q_sq ?_
         refine q_vn [] 1 ⟨[(2, vi 0)], []⟩ ?_
         obtain rfl := Option.some.inj hm
         refine q_rt ?_
         exact q_rm
      ·obtain ⟨g18, hm⟩ := qQ hm
       obtain ⟨v19, h20, hm⟩ := qC hm
       rcases Bool.eq_false_or_eq_true v19 with b21 | b21
       ·replace hm := qA b21 hm
        refine q_vu [qd 2 (Dir.none) (inb_of g18), qc 4 [42] 1 (ZC (a1.Rows.getD (0 : Int).toNat default) v19 h20), qf 5 b21] 1 [3, 35] [(52, vb true)] [] [] ?_
        exact q_J (true) hm
       ·replace hm := qB b21 hm
        obtain ⟨g22, hm⟩ := qQ hm
        obtain ⟨v23, h24, hm⟩ := qC hm
        refine q_vu [qd 2 (Dir.none) (inb_of g18), qc 4 [42] 1 (ZC (a1.Rows.getD (0 : Int).toNat default) v19 h20), qf 5 b21, qd 10 (Dir.none) (inb_of g22), qk 12 [44, 50] 1 ⟨[(44, vb false), (50, va [ci ((a1.Rows.getD (w64 (((a1.Rows.length : Nat) : Int) - 1)).toNat default).A), ci ((a1.Rows.getD (w64 (((a1.Rows.length : Nat) : Int) - 1)).toNat default).B)])], []⟩ (ZC (a1.Rows.getD (w64 (((a1.Rows.length : Nat) : Int) - 1)).toNat default) v23 h24)] 1 [3, 35] [(52, vb v23)] [] [] ?_
        exact q_J (v23) hm
  ·rcases Bool.eq_false_or_eq_true (decide (a1.Low < (-60))) with b3 | b3
   ·replace hm := qA b3 hm
    refine q_vu [qf 3 b3] 1 [12] [(22, vb true)] [] [] ?_
    exact q_J (true) hm
   ·replace hm := qB b3 hm
    refine q_vu [qf 3 b3] 1 [12] [(22, vb (decide (a1.Low > (w64 (60 - ((a1.Rows.length : Nat) : Int))))))] [] [] ?_
    exact q_J (decide (a1.Low > (w64 (60 - ((a1.Rows.length : Nat) : Int))))) hm
open Go.Proofs
set_option maxHeartbeats 4000000
set_option maxRecDepth 100000
def qDo (r : qI) : V := va (zW r)
def qCS (r : qI) : List (Nat × (Nat × O)) := []
theorem SQ (a1 : qI) (r : qI) (hm : JK a1 = some r) : CtX Try.prog globs 44 0 0 [.agg (zW a1)] [] (qDo r) (qCS r) := by
 unfold JK at hm
 refine q_E Try.f44 8 fun E => ?_
 refine q_sq ?_
 refine q_vn [] 0 ⟨[(1, vp 0 0), (2, vp 1 0)], [(0, bx 66 (zW a1)), (1, bx 66 [ci 0, .emp])]⟩ ?_
 refine q_sq ?_
 refine q_sq ?_
 obtain ⟨v2, h3, hm⟩ := qC hm
 refine q_vu [qc 1 [3] 2 (HK a1 v2 h3)] 2 [] [(5, vb (v2 != 0))] [] [] ?_
 refine q_cn (v2 != 0) (fun b4 => ?_) (fun b4 => ?_)
 ·replace hm := qA b4 hm
  refine q_sq ?_
  refine q_vu [] 2 [1, 5] [] [0] [] ?_
  refine q_fn [.ownB 1 1 2 26 2 (rf e_Span ([] : List Span))] ⟨[(2, vp 1 0)], [(1, bx 66 [ci 0, .own 2 0 2 0]), (2, ro 0 26 2 0 (rf e_Span ([] : List Span)))]⟩ o0 ?_
  refine q_fn [.len 2 (([] : List Span).length), .frz 2] ⟨[(2, vp 1 0)], [(1, bx 66 [ci 0, tl e_Span default ([] : List Span)])]⟩ (o1 (And.intro (And.intro (show 0 = ([] : List Span).length from rfl) (show 0 = ([] : List Span).length from rfl)) (Nat.le_refl (([] : List Span).length)))) ?_
  obtain rfl := Option.some.inj hm
  refine q_rt ?_
  exact q_rm
 ·replace hm := qB b4 hm
  refine q_sk ?_
  refine q_sq ?_
  refine q_vn [] 2 ⟨[(2, vp 1 0)], [(1, bx 66 (zW a1))]⟩ ?_
  obtain rfl := Option.some.inj hm
  refine q_rt ?_
  exact q_rm
def qBQ (r : Int) : V := vi r
def qBS (r : Int) : List (Nat × (Nat × O)) := []
def PO (a2 : Rect) (v3 : qI) (x5 : Int) (x6 : Int) : St :=
 ⟨[(2, vp 0 0), (3, vp 1 0), (5, vi x5), (12, vc (tl e_Span default v3.Rows)), (13, vi ((v3.Rows.length : Nat) : Int)), (14, vi x6)], [(0, bx 66 (zW v3)), (1, bx 28 (qK a2))]⟩
def BZ (x19 : Int) : St :=
 ⟨[(5, vi x19)], []⟩
theorem OJ (E : Env 0) (a2 : Rect) (v3 : qI) : ∀ (n : Nat) (x5 : Int) (x6 : Int) (res : Int), yQ a2 v3 n x5 x6 = some res → HL (kx E 44 0) (nd Try.f32 244) (jW 0 (fun o => BZ o) res) n (PO a2 v3 x5 x6) := by
 intro n
 induction n with
 | zero =>
  intro x5 x6 res hm
  cases hm
 | succ n ih =>
  intro x5 x6 res hm
  refine qU ?_
  refine q_sq ?_
  refine q_vu [] 2 [] [(15, vb (decide (x6 < ((v3.Rows.length : Nat) : Int))))] [] [] ?_
  refine q_sq ?_
  refine q_cn (decide (x6 < ((v3.Rows.length : Nat) : Int))) (fun b7 => ?_) (fun b7 => ?_)
  ·replace hm := qA b7 hm
   refine q_sk ?_
   refine q_sq ?_
   refine q_bk 1 ?_
   refine q_sq ?_
   obtain ⟨g8, hm⟩ := qQ hm
   refine q_vu [qd 1 (Dir.none) (inb_of g8)] 2 [15] [(6, vi x6), (7, vp 2 0)] [] [(2, bx 26 [ci ((v3.Rows.getD x6.toNat default).A), ci ((v3.Rows.getD x6.toNat default).B)])] ?_
   refine q_sq ?_
   obtain ⟨v9, h10, hm⟩ := qC hm
   refine q_vu [qc 9 [22, 27] 3 (qAc (w64 (v3.Low + x6)) (w64 ((w64 (v3.Low + x6)) + 1)) v9 h10)] 3 [6] [(8, vp 3 0)] [] [(3, bx 26 (e_Span v9))] ?_
   obtain ⟨v11, h12, hm⟩ := qC hm
   obtain ⟨v13, h14, hm⟩ := qC hm
   obtain ⟨v15, h16, hm⟩ := qC hm
   obtain ⟨v17, h18, hm⟩ := qC hm
   refine q_du [qc 4 [30, 32] 4 (XN (v3.Rows.getD x6.toNat default) a2.X v11 h12), qc 5 [33] 4 (PM v11 v13 h14), qc 9 [35, 37] 4 (XN v9 a2.Y v15 h16), qc 10 [38] 4 (PM v15 v17 h18)] [0, 0, 0, 4, 14, 30, 0, 0, 128, 510, 1022, 2046, 4095, 8191] 4 [5, 7, 8] [(5, vi (w64 (x5 + (w64 (v13 * v17)))))] [2, 3] [] ?_
   refine q_vu [] 4 [14] [(14, vi (w64 (x6 + 1)))] [] [] ?_
   exact q_hl (PO a2 v3 (w64 (x5 + (w64 (v13 * v17)))) (w64 (x6 + 1))) (ih (w64 (x5 + (w64 (v13 * v17)))) (w64 (x6 + 1)) _ hm)
  ·replace hm := qB b7 hm
   refine q_ex 0 ?_
   obtain rfl := Option.some.inj hm
   exact ZG (by kernel_rfl) (by kernel_rfl)
theorem MP (a1 : qI) (a2 : Rect) (r : Int) (hm : WL a1 a2 = some r) : CtX Try.prog globs 32 0 0 [.agg (zW a1), .agg (qK a2)] [] (qBQ r) (qBS r) := by
 unfold WL at hm
 refine q_E Try.f32 44 fun E => ?_
 refine q_sq ?_
 refine q_vn [] 0 ⟨[(2, vp 0 0), (3, vp 1 0)], [(0, bx 66 (zW a1)), (1, bx 28 (qK a2))]⟩ ?_
 refine q_sq ?_
 obtain ⟨v3, h4, hm⟩ := qC hm
 refine q_vu [qc 1 [9] 2 (SQ a1 v3 h4)] 2 [] [] [0] [(0, bx 66 (zW v3))] ?_
 refine q_sq ?_
 refine q_vu [] 2 [] [(5, vi 0)] [] [] ?_
 refine q_sq ?_
 refine q_sq ?_
 refine q_vu [] 2 [] [(12, vc (tl e_Span default v3.Rows)), (13, vi ((v3.Rows.length : Nat) : Int)), (14, vi 0)] [] [] ?_
 obtain ⟨o20, h21, hm⟩ := qC hm
 refine jJ (nd Try.f32 244) 0 (by kernel_rfl) FUEL (fun o => BZ o) o20 (q_hl (PO a2 v3 0 0) (OJ E a2 v3 FUEL 0 0 o20 h21)) ?_
 refine q_sq ?_
 refine q_vn [] 2 ⟨[(4, vi o20)], []⟩ ?_
 obtain rfl := Option.some.inj hm
 refine q_rt ?_
 exact q_rm
set_option maxRecDepth 100000
def LR (r : Int) : V := vi r
def LN (r : Int) : List (Nat × (Nat × O)) := []
def HO (a1 : List qF) (x4 : Int) (x5 : Int) (x13 : Bool) : St :=
 ⟨[(3, vi x4), (5, vp 0 0), (13, vc (tl qH default a1)), (14, vi ((a1.length : Nat) : Int)), (15, vi x5), (39, vb x13)], [(0, bx 68 [ci ((a1.getD x5.toNat default).Len), ci (((a1.getD x5.toNat default).Sec).Low), tl e_Span default (((a1.getD x5.toNat default).Sec).Rows)])]⟩
def GQ (a1 : List qF) (x4 : Int) (x5 : Int) : St :=
 ⟨[(3, vi x4), (13, vc (tl qH default a1)), (14, vi ((a1.length : Nat) : Int)), (15, vi x5)], []⟩
def HR : St :=
 ⟨[], []⟩
theorem qBf (E : Env 0) (a1 : List qF) : ∀ (n : Nat) (x4 : Int) (x5 : Int) (res : Int ⊕ Unit), wX a1 n x4 x5 = some res → HL (kx E 45 0) (nd Try.f43 500) (yY 0 (fun o => HR) (fun v st => RetQ Try.prog Try.f43 (LR v) (LN v) .ret st) res) n (GQ a1 x4 x5) := by
 intro n
 induction n with
 | zero =>
  intro x4 x5 res hm
  cases hm
 | succ n ih =>
  intro x4 x5 res hm
  refine qU ?_
  refine q_sq ?_
  refine q_vu [] 0 [] [(16, vb (decide (x5 < ((a1.length : Nat) : Int))))] [] [] ?_
  refine q_sq ?_
  refine q_cn (decide (x5 < ((a1.length : Nat) : Int))) (fun b6 => ?_) (fun b6 => ?_)
  ·replace hm := qA b6 hm
   refine q_sk ?_
   refine q_sq ?_
   refine q_bk 1 ?_
   refine q_sq ?_
   obtain ⟨g7, hm⟩ := qQ hm
   refine q_vu [qd 0 (Dir.none) (inb_of g7)] 0 [16] [(5, vp 0 0)] [] [(0, bx 68 [ci ((a1.getD x5.toNat default).Len), ci (((a1.getD x5.toNat default).Sec).Low), tl e_Span default (((a1.getD x5.toNat default).Sec).Rows)])] ?_
   refine q_sq ?_
   refine q_sq ?_
   obtain ⟨v8, h9, hm⟩ := qC hm
   refine q_vu [qc 2 [20] 1 (HK ((a1.getD x5.toNat default).Sec) v8 h9)] 1 [] [(6, vi v8)] [] [] ?_
   refine q_sq ?_
   refine q_vu [] 1 [] [(23, vb (v8 != 0))] [] [] ?_
   refine q_cn (v8 != 0) (fun b10 => ?_) (fun b10 => ?_)
   ·replace hm := qA b10 hm
    refine q_sq ?_
    refine q_vn [] 1 ⟨[(2, vi v8)], []⟩ ?_
    obtain rfl := Option.some.inj hm
    refine q_rt ?_
    refine zL v8 ?_
    exact q_rm
   ·replace hm := qB b10 hm
    refine q_sk ?_
    refine q_sq ?_
    refine q_sq ?_
    refine q_vu [] 1 [6, 23] [(29, vb ((((((a1.getD x5.toNat default).Sec).Rows).length : Nat) : Int) == 0))] [] [] ?_
    refine q_cn ((((((a1.getD x5.toNat default).Sec).Rows).length : Nat) : Int) == 0) (fun b11 => ?_) (fun b11 => ?_)
    ·replace hm := qA b11 hm
     refine q_sq ?_
     refine q_vn [] 1 ⟨[(2, vi 18)], []⟩ ?_
     obtain rfl := Option.some.inj hm
     refine q_rt ?_
     refine zL 18 ?_
     exact q_rm
    ·replace hm := qB b11 hm
     refine q_sk ?_
     refine q_sq ?_
     refine q_jn (ι := Bool) (fun p => HO a1 x4 x5 p) (fun p => UD a1 x4 x5 (wX a1 n) p = some res) ?_ ?_
     ·rintro x13 hm
      show H _ (HO a1 x4 x5 x13) _ _
      refine q_cn x13 (fun b14 => ?_) (fun b14 => ?_)
      ·replace hm := qA b14 hm
       refine q_sq ?_
       refine q_vn [] 1 ⟨[(2, vi 9)], []⟩ ?_
       obtain rfl := Option.some.inj hm
       refine q_rt ?_
       refine zL 9 ?_
       exact q_rm
      ·replace hm := qB b14 hm
       refine q_sk ?_
       refine q_vu [] 1 [3, 5, 39] [(3, vi (w64 (x4 + ((a1.getD x5.toNat default).Len))))] [0] [] ?_
       refine q_vu [] 1 [15] [(15, vi (w64 (x5 + 1)))] [] [] ?_
       exact q_hl (GQ a1 (w64 (x4 + ((a1.getD x5.toNat default).Len))) (w64 (x5 + 1))) (ih (w64 (x4 + ((a1.getD x5.toNat default).Len))) (w64 (x5 + 1)) _ hm)
     ·rcases Bool.eq_false_or_eq_true (decide (((a1.getD x5.toNat default).Len) < 1)) with b12 | b12
      ·replace hm := qA b12 hm
       refine q_vu [qf 3 b12] 1 [29] [(39, vb true)] [] [] ?_
       exact q_J (true) hm
      ·replace hm := qB b12 hm
       refine q_vu [qf 3 b12] 1 [29] [(39, vb (decide (((a1.getD x5.toNat default).Len) > (w64 (20000 - x4)))))] [] [] ?_
       exact q_J (decide (((a1.getD x5.toNat default).Len) > (w64 (20000 - x4)))) hm
  ·replace hm := qB b6 hm
   refine q_ex 0 ?_
   obtain rfl := Option.some.inj hm
   exact QW () (by kernel_rfl) (by kernel_rfl)
theorem WC (a1 : List qF) (r : Int) (hm : YO a1 = some r) : CtX Try.prog globs 43 0 0 [.one (tl qH default a1)] [] (LR r) (LN r) := by
 unfold YO at hm
 refine q_E Try.f43 45 fun E => ?_
 refine q_sq ?_
 refine q_vn [] 0 ⟨[(0, vc (tl qH default a1))], []⟩ ?_
 refine q_sq ?_
 refine q_sq ?_
 refine q_vu [] 0 [] [(9, vb (((a1.length : Nat) : Int) == 0))] [] [] ?_
 refine q_cn (((a1.length : Nat) : Int) == 0) (fun b2 => ?_) (fun b2 => ?_)
 ·replace hm := qA b2 hm
  refine q_sq ?_
  refine q_vn [] 0 ⟨[(2, vi 3)], []⟩ ?_
  obtain rfl := Option.some.inj hm
  refine q_rt ?_
  exact q_rm
 ·replace hm := qB b2 hm
  refine q_sk ?_
  refine q_sq ?_
  refine q_sq ?_
  refine q_vu [] 0 [9] [(12, vb (decide (((a1.length : Nat) : Int) > 24)))] [] [] ?_
  refine q_cn (decide (((a1.length : Nat) : Int) > 24)) (fun b3 => ?_) (fun b3 => ?_)
  ·replace hm := qA b3 hm
   refine q_sq ?_
   refine q_vn [] 0 ⟨[(2, vi 4)], []⟩ ?_
   obtain rfl := Option.some.inj hm
   refine q_rt ?_
   exact q_rm
  ·replace hm := qB b3 hm
   refine q_sk ?_
   refine q_sq ?_
   refine q_vu [] 0 [12] [(3, vi 0)] [] [] ?_
   refine q_sq ?_
   refine q_sq ?_
   refine q_vu [] 0 [0] [(13, vc (tl qH default a1)), (14, vi ((a1.length : Nat) : Int)), (15, vi 0)] [] [] ?_
   obtain ⟨u17, h16, hm⟩ := qC hm
   refine wL (nd Try.f43 500) 0 (by kernel_rfl) FUEL (fun o => HR) (fun v st => RetQ Try.prog Try.f43 (LR v) (LN v) .ret st) u17 (q_hl (GQ a1 0 0) (qBf E a1 FUEL 0 0 u17 h16)) ?_ ?_
   ·rintro v18 rfl st hr
    obtain rfl := Option.some.inj hm
    exact hr
   ·rintro o15 rfl
    replace hm : _ = some r := hm
    refine q_sq ?_
    refine q_vn [] 0 ⟨[(2, vi 0)], []⟩ ?_
    obtain rfl := Option.some.inj hm
    refine q_rt ?_
    exact q_rm
open Go.Proofs
set_option maxHeartbeats 4000000
set_option maxRecDepth 100000
def qFp (r : (List qF)) : V := vc (tl qH default r)
def qFq (r : (List qF)) : List (Nat × (Nat × O)) := []
theorem NJ (a1 : List qF) (r : (List qF)) (hm : YI a1 = some r) : CtX Try.prog globs 26 0 0 [.one (tl qH default a1)] [] (qFp r) (qFq r) := by
 unfold YI at hm
 refine q_E Try.f26 7 fun E => ?_
 refine q_sq ?_
 refine q_vn [] 0 ⟨[(0, vc (tl qH default a1))], []⟩ ?_
 refine q_sq ?_
 refine q_sq ?_
 obtain ⟨v2, h3, hm⟩ := qC hm
 refine q_vu [qc 1 [3] 0 (WC a1 v2 h3)] 0 [] [(5, vb (v2 != 0))] [] [] ?_
 refine q_cn (v2 != 0) (fun b4 => ?_) (fun b4 => ?_)
 ·replace hm := qA b4 hm
  refine q_sq ?_
  refine q_vn [] 0 ⟨[(2, vc (.emp))], []⟩ ?_
  refine q_fn [.own 2 0 68 3 (rf qH ([] : List qF))] ⟨[(2, vo 0 0 3 0)], [(0, ro 0 68 3 0 (rf qH ([] : List qF)))]⟩ o0 ?_
  refine q_fn [.len 0 (([] : List qF).length), .frz 0] ⟨[(2, vc (tl qH default ([] : List qF)))], []⟩ (o1 (And.intro (And.intro (show 0 = ([] : List qF).length from rfl) (show 0 = ([] : List qF).length from rfl)) (Nat.le_refl (([] : List qF).length)))) ?_
  obtain rfl := Option.some.inj hm
  refine q_rt ?_
  exact q_rm
 ·replace hm := qB b4 hm
  refine q_sk ?_
  refine q_sq ?_
  refine q_vn [] 0 ⟨[(2, vc (tl qH default a1))], []⟩ ?_
  obtain rfl := Option.some.inj hm
  refine q_rt ?_
  exact q_rm
def qDh (r : (List Span)) : V := vo 0 0 2 r.length
def qCT (r : (List Span)) : List (Nat × (Nat × O)) := [(0, ro 0 26 2 r.length (rf e_Span r))]
def RP (a1 : List qF) (l3 : List Span) (l3n : Nat) (x4 : Int) (x5 : Int) : St :=
 ⟨[(3, vo 0 0 2 l3n), (4, vi x4), (10, vc (tl qH default a1)), (11, vi ((a1.length : Nat) : Int)), (12, vi x5)], [(0, ro 0 26 2 l3n (rf e_Span l3))]⟩
def FY (l9 : List Span) : St :=
 ⟨[(3, vo 0 0 2 l9.length)], [(0, ro 0 26 2 l9.length (rf e_Span l9))]⟩
theorem CR (E : Env 0) (a1 : List qF) : ∀ (n : Nat) (l3 : List Span) (l3n : Nat) (x4 : Int) (x5 : Int) (res : (List Span)), l3.length = l3n → QM a1 n l3 x4 x5 = some res → HL (kx E 32 0) (nd Try.f29 244) (jW 0 (fun o => FY o) res) n (RP a1 l3 l3n x4 x5) := by
 intro n
 induction n with
 | zero =>
  intro l3 l3n x4 x5 res hl0 hm
  cases hm
 | succ n ih =>
  intro l3 l3n x4 x5 res hl0 hm
  subst hl0
  refine qU ?_
  refine q_sq ?_
  refine q_vu [] 1 [] [(13, vb (decide (x5 < ((a1.length : Nat) : Int))))] [] [] ?_
  refine q_sq ?_
  refine q_cn (decide (x5 < ((a1.length : Nat) : Int))) (fun b6 => ?_) (fun b6 => ?_)
  ·replace hm := qA b6 hm
   refine q_sk ?_
   refine q_sq ?_
   refine q_bk 1 ?_
   refine q_sq ?_
   obtain ⟨g7, hm⟩ := qQ hm
   refine q_vu [qd 1 (Dir.none) (inb_of g7)] 1 [13] [(5, vi x5), (6, vp 1 0)] [] [(1, bx 68 [ci ((a1.getD x5.toNat default).Len), ci (((a1.getD x5.toNat default).Sec).Low), tl e_Span default (((a1.getD x5.toNat default).Sec).Rows)])] ?_
   refine q_sq ?_
   obtain ⟨g8, hm⟩ := qQ hm
   refine q_vu [qd 8 (Dir.none) (inb_of g8), qd 9 (drw 0 0 (rf e_Span (l3.set x5.toNat (Span.mk x4 (w64 (x4 + ((a1.getD x5.toNat default).Len))))))) (stP e_Span default (Span.mk x4 (w64 (x4 + ((a1.getD x5.toNat default).Len)))) l3 l3.length x5.toNat 0 [ci x4, ci (w64 (x4 + ((a1.getD x5.toNat default).Len)))] rfl (toNat_lt (inb_of g8)) rfl)] 2 [5] [] [0] [(0, ro 0 26 2 l3.length (rf e_Span (l3.set x5.toNat (Span.mk x4 (w64 (x4 + ((a1.getD x5.toNat default).Len)))))))] ?_
   refine q_vu [] 2 [4, 6] [(4, vi (w64 (x4 + ((a1.getD x5.toNat default).Len))))] [1] [] ?_
   refine q_vu [] 2 [12] [(12, vi (w64 (x5 + 1)))] [] [] ?_
   exact q_hl (RP a1 (l3.set x5.toNat (Span.mk x4 (w64 (x4 + ((a1.getD x5.toNat default).Len))))) l3.length (w64 (x4 + ((a1.getD x5.toNat default).Len))) (w64 (x5 + 1))) (ih (l3.set x5.toNat (Span.mk x4 (w64 (x4 + ((a1.getD x5.toNat default).Len))))) l3.length (w64 (x4 + ((a1.getD x5.toNat default).Len))) (w64 (x5 + 1)) _ (len_set rfl) hm)
  ·replace hm := qB b6 hm
   refine q_ex 0 ?_
   obtain rfl := Option.some.inj hm
   exact ZG (by kernel_rfl) (by kernel_rfl)
theorem qBP (a1 : List qF) (r : (List Span)) (hm : PC a1 = some r) : CtX Try.prog globs 29 0 0 [.one (tl qH default a1)] [] (qDh r) (qCT r) := by
 unfold PC at hm
 refine q_E Try.f29 32 fun E => ?_
 refine q_sq ?_
 refine q_vn [] 0 ⟨[(0, vc (tl qH default a1))], []⟩ ?_
 refine q_sq ?_
 obtain ⟨g2, hm⟩ := qQ hm
 refine q_vu [qd 2 (drw 0 0 (rf e_Span (List.replicate (((a1.length : Nat) : Int).toNat) (Span.mk 0 0)))) (mkP e_Span default (Span.mk 0 0) ((a1.length : Nat) : Int) 16 [ci 0, ci 0] (mkOk_of g2) rfl)] 0 [] [(3, vo 0 0 2 (((a1.length : Nat) : Int).toNat))] [] [(0, ro 0 26 2 (((a1.length : Nat) : Int).toNat) (rf e_Span (List.replicate (((a1.length : Nat) : Int).toNat) (Span.mk 0 0))))] ?_
 refine q_sq ?_
 refine q_vu [] 1 [] [(4, vi 0)] [] [] ?_
 refine q_sq ?_
 refine q_sq ?_
 refine q_vu [] 1 [0] [(10, vc (tl qH default a1)), (11, vi ((a1.length : Nat) : Int)), (12, vi 0)] [] [] ?_
 obtain ⟨o10, h11, hm⟩ := qC hm
 refine jJ (nd Try.f29 244) 0 (by kernel_rfl) FUEL (fun o => FY o) o10 (q_hl (RP a1 (List.replicate (((a1.length : Nat) : Int).toNat) (Span.mk 0 0)) (((a1.length : Nat) : Int).toNat) 0 0) (CR E a1 FUEL (List.replicate (((a1.length : Nat) : Int).toNat) (Span.mk 0 0)) (((a1.length : Nat) : Int).toNat) 0 0 o10 len_rep h11)) ?_
 refine q_sq ?_
 refine q_vu [] 1 [3] [(2, vo 0 0 2 o10.length)] [] [] ?_
 obtain rfl := Option.some.inj hm
 refine q_rt ?_
 exact q_rm
set_option maxRecDepth 100000
def qD3 (r : Int) : V := vi r
def qD9 (r : Int) : List (Nat × (Nat × O)) := []
def MQ (a2 : Box) (v3 : (List qF)) (v5 : (List Span)) (x8 : Int) (x19 : Int) : St :=
 ⟨[(0, vc (tl qH default v3)), (3, vp 0 0), (5, vi x19), (12, vo 1 0 2 v5.length), (13, vi ((v5.length : Nat) : Int)), (14, vi x8)], [(0, bx 52 (jY a2)), (1, ro 0 26 2 v5.length (rf e_Span v5))]⟩
def UV (a2 : Box) (v3 : (List qF)) (v5 : (List Span)) (x7 : Int) (x8 : Int) : St :=
 ⟨[(0, vc (tl qH default v3)), (3, vp 0 0), (5, vi x7), (12, vo 1 0 2 v5.length), (13, vi ((v5.length : Nat) : Int)), (14, vi x8)], [(0, bx 52 (jY a2)), (1, ro 0 26 2 v5.length (rf e_Span v5))]⟩
def MN (x20 : Int) : St :=
 ⟨[(5, vi x20)], []⟩
theorem qAK (E : Env 0) (a2 : Box) (v3 : (List qF)) (v5 : (List Span)) : ∀ (n : Nat) (x7 : Int) (x8 : Int) (res : Int), jI a2 v3 v5 n x7 x8 = some res → HL (kx E 43 0) (nd Try.f17 244) (jW 0 (fun o => MN o) res) n (UV a2 v3 v5 x7 x8) := by
 intro n
 induction n with
 | zero =>
  intro x7 x8 res hm
  cases hm
 | succ n ih =>
  intro x7 x8 res hm
  refine qU ?_
  refine q_sq ?_
  refine q_vu [] 2 [] [(15, vb (decide (x8 < ((v5.length : Nat) : Int))))] [] [] ?_
  refine q_sq ?_
  refine q_cn (decide (x8 < ((v5.length : Nat) : Int))) (fun b9 => ?_) (fun b9 => ?_)
  ·replace hm := qA b9 hm
   refine q_sk ?_
   refine q_jn (ι := Int) (fun p => MQ a2 v3 v5 x8 p) (fun p => PS x8 (jI a2 v3 v5 n) p = some res) ?_ ?_
   ·rintro x19 hm
    show H _ (MQ a2 v3 v5 x8 x19) _ _
    refine q_vu [] 3 [14] [(14, vi (w64 (x8 + 1)))] [] [] ?_
    exact q_hl (UV a2 v3 v5 x19 (w64 (x8 + 1))) (ih x19 (w64 (x8 + 1)) _ hm)
   ·refine q_bk 1 ?_
    refine q_sq ?_
    obtain ⟨g10, hm⟩ := qQ hm
    refine q_vu [qd 1 (Dir.none) (inb_of g10), qd 2 (Dir.none) (toNat_lt (inb_of g10))] 2 [15] [(6, vi x8), (7, vp 2 0)] [] [(2, bx 26 [ci ((v5.getD x8.toNat default).A), ci ((v5.getD x8.toNat default).B)])] ?_
    refine q_sq ?_
    obtain ⟨v11, h12, hm⟩ := qC hm
    obtain ⟨v13, h14, hm⟩ := qC hm
    refine q_vu [qc 3 [19, 21] 3 (XN (v5.getD x8.toNat default) a2.Z v11 h12), qc 4 [22] 3 (PM v11 v13 h14)] 3 [7] [(8, vi v13)] [2] [] ?_
    refine q_sq ?_
    refine q_vu [] 3 [] [(25, vb (decide (v13 > 0)))] [] [] ?_
    refine q_cn (decide (v13 > 0)) (fun b15 => ?_) (fun b15 => ?_)
    ·replace hm := qA b15 hm
     obtain ⟨g16, hm⟩ := qQ hm
     obtain ⟨v17, h18, hm⟩ := qC hm
     refine q_du [qd 4 (Dir.none) (inb_of g16), qc 12 [32, 37] 3 (MP ((v3.getD x8.toNat default).Sec) (Rect.mk a2.X a2.Y) v17 h18)] [0, 0, 0, 0, 12, 28, 60, 0, 128, 0, 512, 1920, 4092, 8190, 16383, 32767] 3 [5, 6, 8, 25] [(5, vi (w64 (x7 + (w64 (v13 * v17)))))] [] [] ?_
     exact q_J (w64 (x7 + (w64 (v13 * v17)))) hm
    ·replace hm := qB b15 hm
     refine q_sk ?_
     exact q_J (x7) hm
  ·replace hm := qB b9 hm
   refine q_ex 0 ?_
   obtain rfl := Option.some.inj hm
   exact ZG (by kernel_rfl) (by kernel_rfl)
theorem JR (a1 : List qF) (a2 : Box) (r : Int) (hm : yE a1 a2 = some r) : CtX Try.prog globs 17 0 0 [.one (tl qH default a1), .agg (jY a2)] [] (qD3 r) (qD9 r) := by
 unfold yE at hm
 refine q_E Try.f17 43 fun E => ?_
 refine q_sq ?_
 refine q_vn [] 0 ⟨[(0, vc (tl qH default a1)), (3, vp 0 0)], [(0, bx 52 (jY a2))]⟩ ?_
 refine q_sq ?_
 obtain ⟨v3, h4, hm⟩ := qC hm
 refine q_vu [qc 1 [9] 1 (NJ a1 v3 h4)] 1 [0] [(0, vc (tl qH default v3))] [] [] ?_
 refine q_sq ?_
 refine q_vu [] 1 [] [(5, vi 0)] [] [] ?_
 refine q_sq ?_
 refine q_sq ?_
 obtain ⟨v5, h6, hm⟩ := qC hm
 refine q_vu [qc 1 [11] 1 (qBP v3 v5 h6)] 1 [] [(12, vo 1 0 2 v5.length), (13, vi ((v5.length : Nat) : Int)), (14, vi 0)] [] [(1, ro 0 26 2 v5.length (rf e_Span v5))] ?_
 obtain ⟨o21, h22, hm⟩ := qC hm
 refine jJ (nd Try.f17 244) 0 (by kernel_rfl) FUEL (fun o => MN o) o21 (q_hl (UV a2 v3 v5 0 0) (qAK E a2 v3 v5 FUEL 0 0 o21 h22)) ?_
 refine q_sq ?_
 refine q_vn [] 2 ⟨[(4, vi o21)], []⟩ ?_
 obtain rfl := Option.some.inj hm
 refine q_rt ?_
 exact q_rm
open Go.Proofs
set_option maxHeartbeats 4000000
set_option maxRecDepth 100000
def qC7 (r : Bool) : V := vb r
def qCZ (r : Bool) : List (Nat × (Nat × O)) := []
def LF (x5 : Bool) : St :=
 ⟨[(6, vb x5)], []⟩
theorem QO (a1 : Span) (a2 : Int) (a3 : Int) (r : Bool) (hm : ZR a1 a2 a3 = some r) : CtX Try.prog globs 89 0 0 [.agg (e_Span a1), .one (ci a2), .one (ci a3)] [] (qC7 r) (qCZ r) := by
 unfold ZR at hm
 refine q_E Try.f89 23 fun E => ?_
 refine q_sq ?_
 refine q_vn [] 0 ⟨[(1, vi a2), (2, vi a3), (3, vp 0 0)], [(0, bx 26 (e_Span a1))]⟩ ?_
 refine q_jn (ι := Bool) (fun p => LF p) (fun p => KU p = some r) ?_ ?_
 ·rintro x5 hm
  show H _ (LF x5) _ _
  obtain rfl := Option.some.inj hm
  refine q_rt ?_
  exact q_rm
 ·rcases Bool.eq_false_or_eq_true (decide ((imin a1.A a1.B) ≥ a2)) with b4 | b4
  ·replace hm := qA b4 hm
   refine q_vn [qf 7 b4] 1 ⟨[(6, vb (decide ((imax a1.A a1.B) ≤ a3)))], []⟩ ?_
   exact q_J (decide ((imax a1.A a1.B) ≤ a3)) hm
  ·replace hm := qB b4 hm
   refine q_vn [qf 7 b4] 1 ⟨[(6, vb false)], []⟩ ?_
   exact q_J (false) hm
def qBO (r : Bool) : V := vb r
def qCe (r : Bool) : List (Nat × (Nat × O)) := []
theorem zG (a1 : Span) (r : Bool) (hm : jC a1 = some r) : CtX Try.prog globs 88 0 0 [.agg (e_Span a1)] [] (qBO r) (qCe r) := by
 unfold jC at hm
 refine q_E Try.f88 8 fun E => ?_
 refine q_sq ?_
 refine q_vn [] 0 ⟨[(1, vp 0 0)], [(0, bx 26 (e_Span a1))]⟩ ?_
 refine q_sq ?_
 refine q_vn [] 1 ⟨[(2, vb (decide (a1.A ≥ a1.B)))], []⟩ ?_
 obtain rfl := Option.some.inj hm
 refine q_rt ?_
 exact q_rm
set_option maxRecDepth 100000
def qD4 (r : Int) : V := vi r
def qEn (r : Int) : List (Nat × (Nat × O)) := []
def MR (x23 : Bool) : St :=
 ⟨[(29, vb x23)], []⟩
def MC (a1 : Defect) (x13 : Bool) : St :=
 ⟨[(3, vp 1 0), (15, vb x13)], [(1, bx 52 (jY a1.Box))]⟩
def MJ (a1 : Defect) (x3 : Bool) : St :=
 ⟨[(3, vp 1 0), (6, vb x3)], [(1, bx 52 (jY a1.Box))]⟩
theorem qCC (a1 : Defect) (r : Int) (hm : RQ a1 = some r) : CtX Try.prog globs 67 0 0 [.agg (qG a1)] [] (qD4 r) (qEn r) := by
 unfold RQ at hm
 refine q_E Try.f67 46 fun E => ?_
 refine q_sq ?_
 refine q_vn [] 0 ⟨[(1, vp 0 0)], [(0, bx 139 (qG a1))]⟩ ?_
 refine q_sq ?_
 refine q_vu [] 1 [] [(3, vp 1 0)] [] [(1, bx 52 (jY a1.Box))] ?_
 refine q_sq ?_
 refine q_bk 0 ?_
 refine q_jn (ι := Bool) (fun p => MJ a1 p) (fun p => RD a1 p = some r) ?_ ?_
 ·rintro x3 hm
  show H _ (MJ a1 x3) _ _
  refine q_cn x3 (fun b4 => ?_) (fun b4 => ?_)
  ·replace hm := qA b4 hm
   refine q_sq ?_
   refine q_vn [] 2 ⟨[(2, vi 10)], []⟩ ?_
   obtain rfl := Option.some.inj hm
   refine q_rt ?_
   exact q_rm
  ·replace hm := qB b4 hm
   refine q_jn (ι := Bool) (fun p => MC a1 p) (fun p => JW a1 p = some r) ?_ ?_
   ·rintro x13 hm
    show H _ (MC a1 x13) _ _
    refine q_cn x13 (fun b14 => ?_) (fun b14 => ?_)
    ·replace hm := qA b14 hm
     refine q_sq ?_
     refine q_vn [] 2 ⟨[(2, vi 19)], []⟩ ?_
     obtain rfl := Option.some.inj hm
     refine q_rt ?_
     exact q_rm
    ·replace hm := qB b14 hm
     refine q_jn (ι := Bool) (fun p => MR p) (fun p => YF p = some r) ?_ ?_
     ·rintro x23 hm
      show H _ (MR x23) _ _
      refine q_cn x23 (fun b24 => ?_) (fun b24 => ?_)
      ·replace hm := qA b24 hm
       refine q_sq ?_
       refine q_vn [] 2 ⟨[(2, vi 9)], []⟩ ?_
       obtain rfl := Option.some.inj hm
       refine q_rt ?_
       exact q_rm
      ·replace hm := qB b24 hm
       refine q_sk ?_
       refine q_sq ?_
       refine q_vn [] 2 ⟨[(2, vi 0)], []⟩ ?_
       obtain rfl := Option.some.inj hm
       refine q_rt ?_
       exact q_rm
     ·obtain ⟨v15, h16, hm⟩ := qC hm
      rcases Bool.eq_false_or_eq_true (!v15) with b17 | b17
      ·replace hm := qA b17 hm
       refine q_vn [qk 2 [31] 2 ⟨[(31, va (e_Span a1.Box.X))], []⟩ (QO a1.Box.X (-600) 600 v15 h16), qf 4 b17] 2 ⟨[(29, vb true)], []⟩ ?_
       exact q_J (true) hm
      ·replace hm := qB b17 hm
       obtain ⟨v18, h19, hm⟩ := qC hm
       rcases Bool.eq_false_or_eq_true (!v18) with b20 | b20
       ·replace hm := qA b20 hm
        refine q_vn [qk 2 [31] 2 ⟨[(31, va (e_Span a1.Box.X))], []⟩ (QO a1.Box.X (-600) 600 v15 h16), qf 4 b17, qk 7 [34, 36] 2 ⟨[(34, vb false), (36, va (e_Span a1.Box.Y))], []⟩ (QO a1.Box.Y (-600) 600 v18 h19), qf 10 b20] 2 ⟨[(29, vb true)], []⟩ ?_
        exact q_J (true) hm
       ·replace hm := qB b20 hm
        obtain ⟨v21, h22, hm⟩ := qC hm
        refine q_vn [qk 2 [31] 2 ⟨[(31, va (e_Span a1.Box.X))], []⟩ (QO a1.Box.X (-600) 600 v15 h16), qf 4 b17, qk 7 [34, 36] 2 ⟨[(34, vb false), (36, va (e_Span a1.Box.Y))], []⟩ (QO a1.Box.Y (-600) 600 v18 h19), qf 10 b20, qk 13 [40, 42] 2 ⟨[(40, vb false), (42, va (e_Span a1.Box.Z))], []⟩ (QO a1.Box.Z 0 20000 v21 h22)] 2 ⟨[(29, vb (!v21))], []⟩ ?_
        exact q_J (!v21) hm
   ·obtain ⟨v5, h6, hm⟩ := qC hm
    rcases Bool.eq_false_or_eq_true v5 with b7 | b7
    ·replace hm := qA b7 hm
     refine q_vu [qc 2 [17] 2 (zG a1.Box.X v5 h6), qf 3 b7] 2 [6] [(15, vb true)] [] [] ?_
     exact q_J (true) hm
    ·replace hm := qB b7 hm
     obtain ⟨v8, h9, hm⟩ := qC hm
     rcases Bool.eq_false_or_eq_true v8 with b10 | b10
     ·replace hm := qA b10 hm
      refine q_vu [qc 2 [17] 2 (zG a1.Box.X v5 h6), qf 3 b7, qk 6 [19, 21] 2 ⟨[(19, vb false), (21, va (e_Span a1.Box.Y))], []⟩ (zG a1.Box.Y v8 h9), qf 8 b10] 2 [6] [(15, vb true)] [] [] ?_
      exact q_J (true) hm
     ·replace hm := qB b10 hm
      obtain ⟨v11, h12, hm⟩ := qC hm
      refine q_vu [qc 2 [17] 2 (zG a1.Box.X v5 h6), qf 3 b7, qk 6 [19, 21] 2 ⟨[(19, vb false), (21, va (e_Span a1.Box.Y))], []⟩ (zG a1.Box.Y v8 h9), qf 8 b10, qk 11 [24, 26] 2 ⟨[(24, vb false), (26, va (e_Span a1.Box.Z))], []⟩ (zG a1.Box.Z v11 h12)] 2 [6] [(15, vb v11)] [] [] ?_
      exact q_J (v11) hm
 ·rcases Bool.eq_false_or_eq_true (decide (a1.Kind < 1)) with b2 | b2
  ·replace hm := qA b2 hm
   refine q_vu [qf 3 b2] 2 [1] [(6, vb true)] [0] [] ?_
   exact q_J (true) hm
  ·replace hm := qB b2 hm
   refine q_vu [qf 3 b2] 2 [1] [(6, vb (decide (a1.Kind > 6)))] [0] [] ?_
   exact q_J (decide (a1.Kind > 6)) hm
open Go.Proofs
set_option maxHeartbeats 4000000
set_option maxRecDepth 100000
def NP (r : Int) : V := vi r
def NH (r : Int) : List (Nat × (Nat × O)) := []
def UW (a1 : List Defect) (x3 : Int) : St :=
 ⟨[(9, vc (tl qG default a1)), (10, vi ((a1.length : Nat) : Int)), (11, vi x3)], []⟩
def MG : St :=
 ⟨[], []⟩
theorem qAX (E : Env 0) (a1 : List Defect) : ∀ (n : Nat) (x3 : Int) (res : Int ⊕ Unit), yJ a1 n x3 = some res → HL (kx E 21 0) (nd Try.f51 116) (yY 0 (fun o => MG) (fun v st => RetQ Try.prog Try.f51 (NP v) (NH v) .ret st) res) n (UW a1 x3) := by
 intro n
 induction n with
 | zero =>
  intro x3 res hm
  cases hm
 | succ n ih =>
  intro x3 res hm
  refine qU ?_
  refine q_sq ?_
  refine q_vu [] 0 [] [(12, vb (decide (x3 < ((a1.length : Nat) : Int))))] [] [] ?_
  refine q_sq ?_
  refine q_cn (decide (x3 < ((a1.length : Nat) : Int))) (fun b4 => ?_) (fun b4 => ?_)
  ·replace hm := qA b4 hm
   refine q_sk ?_
   refine q_sq ?_
   refine q_bk 1 ?_
   refine q_sq ?_
   obtain ⟨g5, hm⟩ := qQ hm
   refine q_vu [qd 0 (Dir.none) (inb_of g5)] 0 [12] [(4, vp 0 0)] [] [(0, bx 139 [ci ((a1.getD x3.toNat default).Kind), ci ((((a1.getD x3.toNat default).Box).X).A), ci ((((a1.getD x3.toNat default).Box).X).B), ci ((((a1.getD x3.toNat default).Box).Y).A), ci ((((a1.getD x3.toNat default).Box).Y).B), ci ((((a1.getD x3.toNat default).Box).Z).A), ci ((((a1.getD x3.toNat default).Box).Z).B)])] ?_
   refine q_sq ?_
   obtain ⟨v6, h7, hm⟩ := qC hm
   refine q_vu [qc 1 [15] 1 (qCC (a1.getD x3.toNat default) v6 h7)] 1 [4] [(5, vi v6)] [0] [] ?_
   refine q_sq ?_
   refine q_vu [] 1 [] [(18, vb (v6 != 0))] [] [] ?_
   refine q_cn (v6 != 0) (fun b8 => ?_) (fun b8 => ?_)
   ·replace hm := qA b8 hm
    refine q_sq ?_
    refine q_vn [] 1 ⟨[(2, vi v6)], []⟩ ?_
    obtain rfl := Option.some.inj hm
    refine q_rt ?_
    refine zL v6 ?_
    exact q_rm
   ·replace hm := qB b8 hm
    refine q_sk ?_
    refine q_vu [] 1 [5, 11, 18] [(11, vi (w64 (x3 + 1)))] [] [] ?_
    exact q_hl (UW a1 (w64 (x3 + 1))) (ih (w64 (x3 + 1)) _ hm)
  ·replace hm := qB b4 hm
   refine q_ex 0 ?_
   obtain rfl := Option.some.inj hm
   exact QW () (by kernel_rfl) (by kernel_rfl)
theorem PT (a1 : List Defect) (r : Int) (hm : YZ a1 = some r) : CtX Try.prog globs 51 0 0 [.one (tl qG default a1)] [] (NP r) (NH r) := by
 unfold YZ at hm
 refine q_E Try.f51 21 fun E => ?_
 refine q_sq ?_
 refine q_vn [] 0 ⟨[(0, vc (tl qG default a1))], []⟩ ?_
 refine q_sq ?_
 refine q_sq ?_
 refine q_vu [] 0 [] [(8, vb (decide (((a1.length : Nat) : Int) > 64)))] [] [] ?_
 refine q_cn (decide (((a1.length : Nat) : Int) > 64)) (fun b2 => ?_) (fun b2 => ?_)
 ·replace hm := qA b2 hm
  refine q_sq ?_
  refine q_vn [] 0 ⟨[(2, vi 4)], []⟩ ?_
  obtain rfl := Option.some.inj hm
  refine q_rt ?_
  exact q_rm
 ·replace hm := qB b2 hm
  refine q_sk ?_
  refine q_sq ?_
  refine q_sq ?_
  refine q_vn [] 0 ⟨[(9, vc (tl qG default a1)), (10, vi ((a1.length : Nat) : Int)), (11, vi 0)], []⟩ ?_
  obtain ⟨u11, h10, hm⟩ := qC hm
  refine wL (nd Try.f51 116) 0 (by kernel_rfl) FUEL (fun o => MG) (fun v st => RetQ Try.prog Try.f51 (NP v) (NH v) .ret st) u11 (q_hl (UW a1 0) (qAX E a1 FUEL 0 u11 h10)) ?_ ?_
  ·rintro v12 rfl st hr
   obtain rfl := Option.some.inj hm
   exact hr
  ·rintro o9 rfl
   replace hm : _ = some r := hm
   refine q_sq ?_
   refine q_vn [] 0 ⟨[(2, vi 0)], []⟩ ?_
   obtain rfl := Option.some.inj hm
   refine q_rt ?_
   exact q_rm
def qDq (r : Bool) : V := vb r
def qCU (r : Bool) : List (Nat × (Nat × O)) := []
def zaQ (x3 : Bool) : St :=
 ⟨[(2, vb x3)], []⟩
theorem KO (a1 : Int) (r : Bool) (hm : JJ a1 = some r) : CtX Try.prog globs 90 0 0 [.one (.val (.int .u8 a1))] [] (qDq r) (qCU r) := by
 unfold JJ at hm
 refine q_E Try.f90 9 fun E => ?_
 refine q_sq ?_
 refine q_vn [] 0 ⟨[(0, vc (.val (.int .u8 a1)))], []⟩ ?_
 refine q_jn (ι := Bool) (fun p => zaQ p) (fun p => KD p = some r) ?_ ?_
 ·rintro x3 hm
  show H _ (zaQ x3) _ _
  obtain rfl := Option.some.inj hm
  refine q_rt ?_
  exact q_rm
 ·rcases Bool.eq_false_or_eq_true (decide (97 ≤ a1)) with b2 | b2
  ·replace hm := qA b2 hm
   refine q_vn [qf 2 b2] 0 ⟨[(2, vb (decide (a1 ≤ 122)))], []⟩ ?_
   exact q_J (decide (a1 ≤ 122)) hm
  ·replace hm := qB b2 hm
   refine q_vn [qf 2 b2] 0 ⟨[(2, vb false)], []⟩ ?_
   exact q_J (false) hm
set_option maxRecDepth 100000
def qCw (r : Bool) : V := vb r
def qC3 (r : Bool) : List (Nat × (Nat × O)) := []
def FV (x3 : Bool) : St :=
 ⟨[(2, vb x3)], []⟩
theorem ST (a1 : Int) (r : Bool) (hm : PE a1 = some r) : CtX Try.prog globs 91 0 0 [.one (.val (.int .u8 a1))] [] (qCw r) (qC3 r) := by
 unfold PE at hm
 refine q_E Try.f91 9 fun E => ?_
 refine q_sq ?_
 refine q_vn [] 0 ⟨[(0, vc (.val (.int .u8 a1)))], []⟩ ?_
 refine q_jn (ι := Bool) (fun p => FV p) (fun p => KQ p = some r) ?_ ?_
 ·rintro x3 hm
  show H _ (FV x3) _ _
  obtain rfl := Option.some.inj hm
  refine q_rt ?_
  exact q_rm
 ·rcases Bool.eq_false_or_eq_true (decide (48 ≤ a1)) with b2 | b2
  ·replace hm := qA b2 hm
   refine q_vn [qf 2 b2] 0 ⟨[(2, vb (decide (a1 ≤ 57)))], []⟩ ?_
   exact q_J (decide (a1 ≤ 57)) hm
  ·replace hm := qB b2 hm
   refine q_vn [qf 2 b2] 0 ⟨[(2, vb false)], []⟩ ?_
   exact q_J (false) hm
end Saw
end Go.SL
