import Derived.Test.YtjobdnkaonbgnaaGreatEBase
set_option linter.unusedVariables false
set_option linter.unusedSimpArgs false
namespace Go.SL
namespace Saw
open Go.Proofs
set_option maxHeartbeats 4000000
set_option maxRecDepth 100000
def qNG (r : Box) : V := va (zC r)
def qNC (r : Box) : List (Nat × (Nat × O)) := []
theorem SN (a1 : Rect) (a2 : Span) (r : Box) (hm : PE a1 a2 = some r) : CtX Tryz.prog globs 34 0 0 [.agg (qE a1), .agg (e_Span a2)] [] (qNG r) (qNC r) := by
 unfold PE at hm
 refine q_E Tryz.f34 11 fun E => ?_
 refine s_vn [] 0 ⟨[(2, vp 0 0), (3, vp 1 0), (4, vp 2 0)], [(0, bx 28 (qE a1)), (1, bx 26 (e_Span a2)), (2, bx 67 [ci 0, ci 0, ci 0, ci 0, ci 0, ci 0])]⟩ ?_
 refine s_vn [] 3 ⟨[(4, vp 2 0)], [(2, bx 67 [ci a1.X.A, ci a1.X.B, ci a1.Y.A, ci a1.Y.B, ci a2.A, ci a2.B])]⟩ ?_
 obtain rfl := oi hm
 refine q_rt ?_
 exact q_rm
def qNT (r : Span) : V := va (e_Span r)
def qNy (r : Span) : List (Nat × (Nat × O)) := []
theorem RL (a1 : Span) (a2 : Span) (r : Span) (hm : YI a1 a2 = some r) : CtX Tryz.prog globs 87 0 0 [.agg (e_Span a1), .agg (e_Span a2)] [] (qNT r) (qNy r) := by
 unfold YI at hm
 refine q_E Tryz.f87 24 fun E => ?_
 refine s_vn [] 0 ⟨[(2, vp 0 0), (3, vp 1 0), (4, vp 2 0)], [(0, bx 26 (e_Span a1)), (1, bx 26 (e_Span a2)), (2, bx 26 [ci 0, ci 0])]⟩ ?_
 refine s_vu [] 3 [2, 3] [(5, vp 3 0)] [0, 1] [(3, bx 26 [ci (imax a1.A a2.A), ci (imin a1.B a2.B)])] ?_
 refine q_sq ?_
 refine s_vu [] 4 [] [(21, vb (decide ((imax a1.A a2.A) ≥ (imin a1.B a2.B))))] [] [] ?_
 refine q_cn (decide ((imax a1.A a2.A) ≥ (imin a1.B a2.B))) (fun b3 => ?_) (fun b3 => ?_)
 ·replace hm := qB b3 hm
  refine s_vu [] 4 [5, 21] [] [3] [] ?_
  obtain rfl := oi hm
  refine q_rt ?_
  exact q_rm
 ·replace hm := qC b3 hm
  refine q_sk ?_
  refine s_vn [] 4 ⟨[(4, vp 2 0)], [(2, bx 26 [ci (imax a1.A a2.A), ci (imin a1.B a2.B)])]⟩ ?_
  obtain rfl := oi hm
  refine q_rt ?_
  exact q_rm
def qNB (r : Int) : V := vc (.val (.int .u64 r))
def qNM (r : Int) : List (Nat × (Nat × O)) := []
theorem qNk (a1 : Span) (r : Int) (hm : qCt a1 = some r) : CtX Tryz.prog globs 124 0 0 [.agg (e_Span a1)] [] (qNB r) (qNM r) := by
 unfold qCt at hm
 refine q_E Tryz.f124 15 fun E => ?_
 refine s_vn [] 0 ⟨[(1, vp 0 0)], [(0, bx 26 (e_Span a1))]⟩ ?_
 refine q_sq ?_
 refine s_vu [] 1 [] [(7, vb (decide (a1.A ≥ a1.B)))] [] [] ?_
 refine q_cn (decide (a1.A ≥ a1.B)) (fun b2 => ?_) (fun b2 => ?_)
 ·replace hm := qB b2 hm
  refine s_vn [] 1 ⟨[(2, vc (.val (.int .u64 0)))], []⟩ ?_
  obtain rfl := oi hm
  refine q_rt ?_
  exact q_rm
 ·replace hm := qC b2 hm
  refine q_sk ?_
  refine s_vn [] 1 ⟨[(2, vc (.val (.int .u64 (IntKind.u64.wrap ((IntKind.u64.wrap (a1.B)) - (IntKind.u64.wrap (a1.A)))))))], []⟩ ?_
  obtain rfl := oi hm
  refine q_rt ?_
  exact q_rm
def qJx (r : Int) : V := vi r
def qIJ (r : Int) : List (Nat × (Nat × O)) := []
theorem qIn (a1 : Int) (r : Int) (hm : SV a1 = some r) : CtX Tryz.prog globs 123 0 0 [.one (.val (.int .u64 a1))] [] (qJx r) (qIJ r) := by
 unfold SV at hm
 refine q_E Tryz.f123 6 fun E => ?_
 refine s_vn [] 0 ⟨[(0, vc (.val (.int .u64 a1)))], []⟩ ?_
 refine s_vn [] 0 ⟨[(2, vi (w64 (imin a1 9223372036854775807)))], []⟩ ?_
 obtain rfl := oi hm
 refine q_rt ?_
 exact q_rm
def qPa (r : Int) : V := vi r
def qOV (r : Int) : List (Nat × (Nat × O)) := []
theorem VX (a1 : Span) (r : Int) (hm : JV a1 = some r) : CtX Tryz.prog globs 86 0 0 [.agg (e_Span a1)] [] (qPa r) (qOV r) := by
 unfold JV at hm
 refine q_E Tryz.f86 6 fun E => ?_
 refine s_vn [] 0 ⟨[(1, vp 0 0)], [(0, bx 26 (e_Span a1))]⟩ ?_
 obtain ⟨v2, h3, hm⟩ := qD hm
 obtain ⟨v4, h5, hm⟩ := qD hm
 refine s_vn [qc 1 [3] 1 (qNk a1 v2 h3), qc 2 [4] 1 (qIn v2 v4 h5)] 1 ⟨[(2, vi v4)], []⟩ ?_
 obtain rfl := oi hm
 refine q_rt ?_
 exact q_rm
def qFU (r : Span) : V := va (e_Span r)
def qF9 (r : Span) : List (Nat × (Nat × O)) := []
theorem qFx (a1 : Int) (a2 : Int) (r : Span) (hm : PD a1 a2 = some r) : CtX Tryz.prog globs 125 0 0 [.one (ci a1), .one (ci a2)] [] (qFU r) (qF9 r) := by
 unfold PD at hm
 refine q_E Tryz.f125 10 fun E => ?_
 refine s_vn [] 0 ⟨[(0, vi a1), (1, vi a2), (4, vp 0 0)], [(0, bx 26 [ci 0, ci 0])]⟩ ?_
 refine s_vu [] 1 [0, 1] [] [0] [(0, bx 26 [ci (w64 (10 * a1)), ci (w64 (10 * a2))])] ?_
 obtain rfl := oi hm
 refine q_rt ?_
 exact q_rm
def qFV (r : Bool) : V := vb r
def qF8 (r : Bool) : List (Nat × (Nat × O)) := []
def EY (x3 : Bool) : St :=
 ⟨[(2, vb x3)], []⟩
theorem qFp (a1 : Span) (r : Bool) (hm : KU a1 = some r) : CtX Tryz.prog globs 127 0 0 [.agg (e_Span a1)] [] (qFV r) (qF8 r) := by
 unfold KU at hm
 refine q_E Tryz.f127 17 fun E => ?_
 refine s_vn [] 0 ⟨[(1, vp 0 0)], [(0, bx 26 (e_Span a1))]⟩ ?_
 refine q_jn (ι := Bool) (fun p => EY p) (fun p => PG p = some r) ?_ ?_
 ·rintro x3 hm
  show H _ (EY x3) _ _
  obtain rfl := oi hm
  refine q_rt ?_
  exact q_rm
 ·rcases Bool.eq_false_or_eq_true (decide ((imin a1.A a1.B) ≥ (-600))) with b2 | b2
  ·replace hm := qB b2 hm
   refine q_vn [qf 6 b2] 1 ⟨[(2, vb (decide ((imax a1.A a1.B) ≤ 600)))], []⟩ ?_
   exact q_J (decide ((imax a1.A a1.B) ≤ 600)) hm
  ·replace hm := qC b2 hm
   refine q_vn [qf 6 b2] 1 ⟨[(2, vb false)], []⟩ ?_
   exact q_J (false) hm
def qFZ (r : Bool) : V := vb r
def qGd (r : Bool) : List (Nat × (Nat × O)) := []
theorem JC (a1 : Span) (r : Bool) (hm : JK a1 = some r) : CtX Tryz.prog globs 128 0 0 [.agg (e_Span a1)] [] (qFZ r) (qGd r) := by
 unfold JK at hm
 refine q_E Tryz.f128 8 fun E => ?_
 refine s_vn [] 0 ⟨[(1, vp 0 0)], [(0, bx 26 (e_Span a1))]⟩ ?_
 refine s_vn [] 1 ⟨[(2, vb (decide (a1.A ≥ a1.B)))], []⟩ ?_
 obtain rfl := oi hm
 refine q_rt ?_
 exact q_rm
def KQ (r : Int) : V := vi r
def KZ (r : Int) : List (Nat × (Nat × O)) := []
def BI (a1 : qK) (x6 : Int) : St :=
 ⟨[(1, vp 0 0), (3, vi ((a1.Rows.length : Nat) : Int)), (24, vc (tl e_Span default a1.Rows)), (25, vi ((a1.Rows.length : Nat) : Int)), (26, vi x6)], [(0, bx 57 (qW a1))]⟩
def IZ (a1 : qK) : St :=
 ⟨[(1, vp 0 0), (3, vi ((a1.Rows.length : Nat) : Int))], [(0, bx 57 (qW a1))]⟩
def OX (a1 : qK) (x27 : Int) (x33 : Bool) : St :=
 ⟨[(54, vc (tl e_Span default a1.Rows)), (55, vi ((a1.Rows.length : Nat) : Int)), (56, vi x27), (66, vb x33)], []⟩
def BO (a1 : qK) (x27 : Int) : St :=
 ⟨[(54, vc (tl e_Span default a1.Rows)), (55, vi ((a1.Rows.length : Nat) : Int)), (56, vi x27)], []⟩
def OC : St :=
 ⟨[], []⟩
def OI (a1 : qK) (x25 : Bool) : St :=
 ⟨[(1, vp 0 0), (52, vb x25)], [(0, bx 57 (qW a1))]⟩
def OT (a1 : qK) (x4 : Bool) : St :=
 ⟨[(1, vp 0 0), (3, vi ((a1.Rows.length : Nat) : Int)), (22, vb x4)], [(0, bx 57 (qW a1))]⟩
theorem qEq (E : Env 0) (a1 : qK) : ∀ (n : Nat) (x6 : Int) (res : Int ⊕ Unit), QD a1 n x6 = some res → HL (kx E 68 0) (nd Tryz.f93 500) (wN 0 (fun o => IZ a1) (fun v st => RetQ Tryz.prog Tryz.f93 (KQ v) (KZ v) .ret st) res) n (BI a1 x6) := by
 intro n
 induction n with
 | zero =>
  intro x6 res hm
  cases hm
 | succ n ih =>
  intro x6 res hm
  refine qQ ?_
  refine s_vu [] 1 [] [(27, vb (decide (x6 < ((a1.Rows.length : Nat) : Int))))] [] [] ?_
  refine q_sq ?_
  refine q_cn (decide (x6 < ((a1.Rows.length : Nat) : Int))) (fun b7 => ?_) (fun b7 => ?_)
  ·replace hm := qB b7 hm
   refine q_sk ?_
   refine q_sq ?_
   refine q_bk 1 ?_
   obtain ⟨g8, hm⟩ := qM hm
   refine s_vu [qd 0 (Dir.none) (inb_of g8)] 1 [27] [(5, vp 1 0)] [] [(1, bx 26 [ci ((a1.Rows.getD x6.toNat default).A), ci ((a1.Rows.getD x6.toNat default).B)])] ?_
   obtain ⟨v9, h10, hm⟩ := qD hm
   refine s_vu [qc 1 [30] 2 (qFp (a1.Rows.getD x6.toNat default) v9 h10)] 2 [5] [(32, vb (!v9))] [1] [] ?_
   refine q_cn (!v9) (fun b11 => ?_) (fun b11 => ?_)
   ·replace hm := qB b11 hm
    refine s_vn [] 2 ⟨[(2, vi 9)], []⟩ ?_
    obtain rfl := oi hm
    refine q_rt ?_
    refine zB 9 ?_
    exact q_rm
   ·replace hm := qC b11 hm
    refine q_sk ?_
    refine q_vu [] 2 [26, 32] [(26, vi (w64 (x6 + 1)))] [] [] ?_
    exact q_hl (BI a1 (w64 (x6 + 1))) (ih (w64 (x6 + 1)) _ hm)
  ·replace hm := qC b7 hm
   refine q_ex 0 ?_
   obtain rfl := oi hm
   exact wR () (by kernel_rfl) (by kernel_rfl)
theorem qEp (E : Env 0) (a1 : qK) : ∀ (n : Nat) (x27 : Int) (res : Int ⊕ Unit), jC a1 n x27 = some res → HL (kx E 68 0) (nd Tryz.f93 4084) (wN 2 (fun o => OC) (fun v st => RetQ Tryz.prog Tryz.f93 (KQ v) (KZ v) .ret st) res) n (BO a1 x27) := by
 intro n
 induction n with
 | zero =>
  intro x27 res hm
  cases hm
 | succ n ih =>
  intro x27 res hm
  refine qQ ?_
  refine s_vu [] 1 [] [(57, vb (decide (x27 < ((a1.Rows.length : Nat) : Int))))] [] [] ?_
  refine q_sq ?_
  refine q_cn (decide (x27 < ((a1.Rows.length : Nat) : Int))) (fun b28 => ?_) (fun b28 => ?_)
  ·replace hm := qB b28 hm
   refine q_sk ?_
   refine q_sq ?_
   refine q_bk 3 ?_
   obtain ⟨g29, hm⟩ := qM hm
   refine s_vu [qd 0 (Dir.none) (inb_of g29)] 1 [57] [(7, vp 1 0)] [] [(1, bx 26 [ci ((a1.Rows.getD x27.toNat default).A), ci ((a1.Rows.getD x27.toNat default).B)])] ?_
   refine q_jn (ι := Bool) (fun p => OX a1 x27 p) (fun p => UB x27 (jC a1 n) p = some res) ?_ ?_
   ·rintro x33 hm
    show H _ (OX a1 x27 x33) _ _
    refine q_cn x33 (fun b34 => ?_) (fun b34 => ?_)
    ·replace hm := qB b34 hm
     refine s_vn [] 2 ⟨[(2, vi 19)], []⟩ ?_
     obtain rfl := oi hm
     refine q_rt ?_
     refine zB 19 ?_
     exact q_rm
    ·replace hm := qC b34 hm
     refine q_sk ?_
     refine q_vu [] 2 [56, 66] [(56, vi (w64 (x27 + 1)))] [] [] ?_
     exact q_hl (BO a1 (w64 (x27 + 1))) (ih (w64 (x27 + 1)) _ hm)
   ·obtain ⟨v30, h31, hm⟩ := qD hm
    rcases Bool.eq_false_or_eq_true v30 with b32 | b32
    ·replace hm := qB b32 hm
     refine q_vu [qc 1 [60] 2 (JC (a1.Rows.getD x27.toNat default) v30 h31), qf 2 b32] 2 [7] [(66, vb (!((((a1.Rows.getD x27.toNat default).A) == 0) && ((((a1.Rows.getD x27.toNat default).B) == 0) && true))))] [1] [] ?_
     exact q_J (!((((a1.Rows.getD x27.toNat default).A) == 0) && ((((a1.Rows.getD x27.toNat default).B) == 0) && true))) hm
    ·replace hm := qC b32 hm
     refine q_vu [qc 1 [60] 2 (JC (a1.Rows.getD x27.toNat default) v30 h31), qf 2 b32] 2 [7] [(66, vb false)] [1] [] ?_
     exact q_J (false) hm
  ·replace hm := qC b28 hm
   refine q_ex 2 ?_
   obtain rfl := oi hm
   exact wR () (by kernel_rfl) (by kernel_rfl)
theorem qA1 (a1 : qK) (r : Int) (hm : KC a1 = some r) : CtX Tryz.prog globs 93 0 0 [.agg (qW a1)] [] (KQ r) (KZ r) := by
 unfold KC at hm
 refine q_E Tryz.f93 68 fun E => ?_
 refine s_vn [] 0 ⟨[(1, vp 0 0)], [(0, bx 57 (qW a1))]⟩ ?_
 refine s_vu [] 1 [] [(3, vi ((a1.Rows.length : Nat) : Int))] [] [] ?_
 refine q_sq ?_
 refine s_vu [] 1 [] [(12, vb (decide (((a1.Rows.length : Nat) : Int) > 120)))] [] [] ?_
 refine q_cn (decide (((a1.Rows.length : Nat) : Int) > 120)) (fun b2 => ?_) (fun b2 => ?_)
 ·replace hm := qB b2 hm
  refine s_vn [] 1 ⟨[(2, vi 4)], []⟩ ?_
  obtain rfl := oi hm
  refine q_rt ?_
  exact q_rm
 ·replace hm := qC b2 hm
  refine q_sk ?_
  refine q_sq ?_
  refine q_jn (ι := Bool) (fun p => OT a1 p) (fun p => UA a1 p = some r) ?_ ?_
  ·rintro x4 hm
   show H _ (OT a1 x4) _ _
   refine q_cn x4 (fun b5 => ?_) (fun b5 => ?_)
   ·replace hm := qB b5 hm
    refine s_vn [] 1 ⟨[(2, vi 9)], []⟩ ?_
    obtain rfl := oi hm
    refine q_rt ?_
    exact q_rm
   ·replace hm := qC b5 hm
    refine q_sk ?_
    refine q_sq ?_
    refine s_vu [] 1 [22] [(24, vc (tl e_Span default a1.Rows)), (25, vi ((a1.Rows.length : Nat) : Int)), (26, vi 0)] [] [] ?_
    obtain ⟨u14, h13, hm⟩ := qD hm
    refine zP (nd Tryz.f93 500) 0 (by kernel_rfl) FUEL (fun o => IZ a1) (fun v st => RetQ Tryz.prog Tryz.f93 (KQ v) (KZ v) .ret st) u14 (q_hl (BI a1 0) (qEq E a1 FUEL 0 u14 h13)) ?_ ?_
    ·rintro v15 rfl st hr
     obtain rfl := oi hm
     exact hr
    ·rintro o12 rfl
     replace hm : _ = some r := hm
     refine q_sq ?_
     refine s_vu [] 1 [] [(35, vb (((a1.Rows.length : Nat) : Int) == 0))] [] [] ?_
     refine q_cn (((a1.Rows.length : Nat) : Int) == 0) (fun b16 => ?_) (fun b16 => ?_)
     ·replace hm := qB b16 hm
      refine q_sq ?_
      refine s_vn [] 1 ⟨[(38, vb (a1.Low != 0))], []⟩ ?_
      refine q_cn (a1.Low != 0) (fun b17 => ?_) (fun b17 => ?_)
      ·replace hm := qB b17 hm
       refine s_vn [] 1 ⟨[(2, vi 19)], []⟩ ?_
       obtain rfl := oi hm
       refine q_rt ?_
       exact q_rm
      ·replace hm := qC b17 hm
       refine q_sk ?_
       refine s_vn [] 1 ⟨[(2, vi 0)], []⟩ ?_
       obtain rfl := oi hm
       refine q_rt ?_
       exact q_rm
     ·replace hm := qC b16 hm
      refine q_sk ?_
      refine q_sq ?_
      refine q_jn (ι := Bool) (fun p => OI a1 p) (fun p => TR a1 p = some r) ?_ ?_
      ·rintro x25 hm
       show H _ (OI a1 x25) _ _
       refine q_cn x25 (fun b26 => ?_) (fun b26 => ?_)
       ·replace hm := qB b26 hm
        refine s_vn [] 1 ⟨[(2, vi 19)], []⟩ ?_
        obtain rfl := oi hm
        refine q_rt ?_
        exact q_rm
       ·replace hm := qC b26 hm
        refine q_sk ?_
        refine q_sq ?_
        refine s_vn [] 1 ⟨[(54, vc (tl e_Span default a1.Rows)), (55, vi ((a1.Rows.length : Nat) : Int)), (56, vi 0)], []⟩ ?_
        obtain ⟨u37, h36, hm⟩ := qD hm
        refine zP (nd Tryz.f93 4084) 2 (by kernel_rfl) FUEL (fun o => OC) (fun v st => RetQ Tryz.prog Tryz.f93 (KQ v) (KZ v) .ret st) u37 (q_hl (BO a1 0) (qEp E a1 FUEL 0 u37 h36)) ?_ ?_
        ·rintro v38 rfl st hr
         obtain rfl := oi hm
         exact hr
        ·rintro o35 rfl
         replace hm : _ = some r := hm
         refine s_vn [] 1 ⟨[(2, vi 0)], []⟩ ?_
         obtain rfl := oi hm
         refine q_rt ?_
         exact q_rm
      ·obtain ⟨g18, hm⟩ := qM hm
       obtain ⟨v19, h20, hm⟩ := qD hm
       rcases Bool.eq_false_or_eq_true v19 with b21 | b21
       ·replace hm := qB b21 hm
        refine q_vu [qd 2 (Dir.none) (inb_of g18), qc 4 [42] 1 (JC (a1.Rows.getD (0 : Int).toNat default) v19 h20), qf 5 b21] 1 [3, 35] [(52, vb true)] [] [] ?_
        exact q_J (true) hm
       ·replace hm := qC b21 hm
        obtain ⟨g22, hm⟩ := qM hm
        obtain ⟨v23, h24, hm⟩ := qD hm
        refine q_vu [qd 2 (Dir.none) (inb_of g18), qc 4 [42] 1 (JC (a1.Rows.getD (0 : Int).toNat default) v19 h20), qf 5 b21, qd 10 (Dir.none) (inb_of g22), qk 12 [44, 50] 1 ⟨[(44, vb false), (50, va [ci ((a1.Rows.getD (w64 (((a1.Rows.length : Nat) : Int) - 1)).toNat default).A), ci ((a1.Rows.getD (w64 (((a1.Rows.length : Nat) : Int) - 1)).toNat default).B)])], []⟩ (JC (a1.Rows.getD (w64 (((a1.Rows.length : Nat) : Int) - 1)).toNat default) v23 h24)] 1 [3, 35] [(52, vb v23)] [] [] ?_
        exact q_J (v23) hm
  ·rcases Bool.eq_false_or_eq_true (decide (a1.Low < (-60))) with b3 | b3
   ·replace hm := qB b3 hm
    refine q_vu [qf 3 b3] 1 [12] [(22, vb true)] [] [] ?_
    exact q_J (true) hm
   ·replace hm := qC b3 hm
    refine q_vu [qf 3 b3] 1 [12] [(22, vb (decide (a1.Low > (w64 (60 - ((a1.Rows.length : Nat) : Int))))))] [] [] ?_
    exact q_J (decide (a1.Low > (w64 (60 - ((a1.Rows.length : Nat) : Int))))) hm
def qHV (r : qK) : V := va (qW r)
def qHs (r : qK) : List (Nat × (Nat × O)) := []
theorem qBd (a1 : qK) (r : qK) (hm : KE a1 = some r) : CtX Tryz.prog globs 122 0 0 [.agg (qW a1)] [] (qHV r) (qHs r) := by
 unfold KE at hm
 refine q_E Tryz.f122 8 fun E => ?_
 refine s_vn [] 0 ⟨[(1, vp 0 0), (2, vp 1 0)], [(0, bx 57 (qW a1)), (1, bx 57 [ci 0, .emp])]⟩ ?_
 refine q_sq ?_
 obtain ⟨v2, h3, hm⟩ := qD hm
 refine s_vu [qc 1 [3] 2 (qA1 a1 v2 h3)] 2 [] [(5, vb (v2 != 0))] [] [] ?_
 refine q_cn (v2 != 0) (fun b4 => ?_) (fun b4 => ?_)
 ·replace hm := qB b4 hm
  refine s_vu [] 2 [1, 5] [] [0] [] ?_
  refine q_fn [.ownB 1 1 2 26 2 (rf e_Span ([] : List Span))] ⟨[(2, vp 1 0)], [(1, bx 57 [ci 0, .own 2 0 2 0]), (2, ro 0 26 2 0 (rf e_Span ([] : List Span)))]⟩ o0 ?_
  refine q_fn [.len 2 (([] : List Span).length), .frz 2] ⟨[(2, vp 1 0)], [(1, bx 57 [ci 0, tl e_Span default ([] : List Span)])]⟩ (o1 (And.intro (And.intro (show 0 = ([] : List Span).length from rfl) (show 0 = ([] : List Span).length from rfl)) (Nat.le_refl (([] : List Span).length)))) ?_
  obtain rfl := oi hm
  refine q_rt ?_
  exact q_rm
 ·replace hm := qC b4 hm
  refine q_sk ?_
  refine s_vn [] 2 ⟨[(2, vp 1 0)], [(1, bx 57 (qW a1))]⟩ ?_
  obtain rfl := oi hm
  refine q_rt ?_
  exact q_rm
def qGz (r : Int) : V := vi r
def qGB (r : Int) : List (Nat × (Nat × O)) := []
def GF (a2 : Rect) (v3 : qK) (x5 : Int) (x6 : Int) : St :=
 ⟨[(2, vp 0 0), (3, vp 1 0), (5, vi x5), (12, vc (tl e_Span default v3.Rows)), (13, vi ((v3.Rows.length : Nat) : Int)), (14, vi x6)], [(0, bx 57 (qW v3)), (1, bx 28 (qE a2))]⟩
def AE (x19 : Int) : St :=
 ⟨[(5, vi x19)], []⟩
theorem qDK (E : Env 0) (a2 : Rect) (v3 : qK) : ∀ (n : Nat) (x5 : Int) (x6 : Int) (res : Int), ZJ a2 v3 n x5 x6 = some res → HL (kx E 44 0) (nd Tryz.f88 244) (wC 0 (fun o => AE o) res) n (GF a2 v3 x5 x6) := by
 intro n
 induction n with
 | zero =>
  intro x5 x6 res hm
  cases hm
 | succ n ih =>
  intro x5 x6 res hm
  refine qQ ?_
  refine s_vu [] 2 [] [(15, vb (decide (x6 < ((v3.Rows.length : Nat) : Int))))] [] [] ?_
  refine q_sq ?_
  refine q_cn (decide (x6 < ((v3.Rows.length : Nat) : Int))) (fun b7 => ?_) (fun b7 => ?_)
  ·replace hm := qB b7 hm
   refine q_sk ?_
   refine q_sq ?_
   refine q_bk 1 ?_
   obtain ⟨g8, hm⟩ := qM hm
   refine s_vu [qd 1 (Dir.none) (inb_of g8)] 2 [15] [(6, vi x6), (7, vp 2 0)] [] [(2, bx 26 [ci ((v3.Rows.getD x6.toNat default).A), ci ((v3.Rows.getD x6.toNat default).B)])] ?_
   obtain ⟨v9, h10, hm⟩ := qD hm
   refine s_vu [qc 9 [22, 27] 3 (qFx (w64 (v3.Low + x6)) (w64 ((w64 (v3.Low + x6)) + 1)) v9 h10)] 3 [6] [(8, vp 3 0)] [] [(3, bx 26 (e_Span v9))] ?_
   obtain ⟨v11, h12, hm⟩ := qD hm
   obtain ⟨v13, h14, hm⟩ := qD hm
   obtain ⟨v15, h16, hm⟩ := qD hm
   obtain ⟨v17, h18, hm⟩ := qD hm
   refine q_du [qc 4 [30, 32] 4 (RL (v3.Rows.getD x6.toNat default) a2.X v11 h12), qc 5 [33] 4 (VX v11 v13 h14), qc 9 [35, 37] 4 (RL v9 a2.Y v15 h16), qc 10 [38] 4 (VX v15 v17 h18)] [0, 0, 0, 4, 14, 30, 0, 0, 128, 510, 1022, 2046, 4095, 8191] 4 [5, 7, 8] [(5, vi (w64 (x5 + (w64 (v13 * v17)))))] [2, 3] [] ?_
   refine q_vu [] 4 [14] [(14, vi (w64 (x6 + 1)))] [] [] ?_
   exact q_hl (GF a2 v3 (w64 (x5 + (w64 (v13 * v17)))) (w64 (x6 + 1))) (ih (w64 (x5 + (w64 (v13 * v17)))) (w64 (x6 + 1)) _ hm)
  ·replace hm := qC b7 hm
   refine q_ex 0 ?_
   obtain rfl := oi hm
   exact jP (by kernel_rfl) (by kernel_rfl)
theorem CY (a1 : qK) (a2 : Rect) (r : Int) (hm : YQ a1 a2 = some r) : CtX Tryz.prog globs 88 0 0 [.agg (qW a1), .agg (qE a2)] [] (qGz r) (qGB r) := by
 unfold YQ at hm
 refine q_E Tryz.f88 44 fun E => ?_
 refine s_vn [] 0 ⟨[(2, vp 0 0), (3, vp 1 0)], [(0, bx 57 (qW a1)), (1, bx 28 (qE a2))]⟩ ?_
 obtain ⟨v3, h4, hm⟩ := qD hm
 refine s_vu [qc 1 [9] 2 (qBd a1 v3 h4)] 2 [] [] [0] [(0, bx 57 (qW v3))] ?_
 refine s_vu [] 2 [] [(5, vi 0)] [] [] ?_
 refine q_sq ?_
 refine s_vu [] 2 [] [(12, vc (tl e_Span default v3.Rows)), (13, vi ((v3.Rows.length : Nat) : Int)), (14, vi 0)] [] [] ?_
 obtain ⟨o20, h21, hm⟩ := qD hm
 refine zX (nd Tryz.f88 244) 0 (by kernel_rfl) FUEL (fun o => AE o) o20 (q_hl (GF a2 v3 0 0) (qDK E a2 v3 FUEL 0 0 o20 h21)) ?_
 refine s_vn [] 2 ⟨[(4, vi o20)], []⟩ ?_
 obtain rfl := oi hm
 refine q_rt ?_
 exact q_rm
def OY (r : Int) : V := vi r
def CC (r : Int) : List (Nat × (Nat × O)) := []
def qBM (a1 : List Slice) (x4 : Int) (x5 : Int) (x13 : Bool) : St :=
 ⟨[(3, vi x4), (5, vp 0 0), (13, vc (tl qH default a1)), (14, vi ((a1.length : Nat) : Int)), (15, vi x5), (39, vb x13)], [(0, bx 59 [ci ((a1.getD x5.toNat default).Len), ci (((a1.getD x5.toNat default).Sec).Low), tl e_Span default (((a1.getD x5.toNat default).Sec).Rows)])]⟩
def HG (a1 : List Slice) (x4 : Int) (x5 : Int) : St :=
 ⟨[(3, vi x4), (13, vc (tl qH default a1)), (14, vi ((a1.length : Nat) : Int)), (15, vi x5)], []⟩
def qA2 : St :=
 ⟨[], []⟩
theorem qF6 (E : Env 0) (a1 : List Slice) : ∀ (n : Nat) (x4 : Int) (x5 : Int) (res : Int ⊕ Unit), jZ a1 n x4 x5 = some res → HL (kx E 45 0) (nd Tryz.f56 500) (wN 0 (fun o => qA2) (fun v st => RetQ Tryz.prog Tryz.f56 (OY v) (CC v) .ret st) res) n (HG a1 x4 x5) := by
 intro n
 induction n with
 | zero =>
  intro x4 x5 res hm
  cases hm
 | succ n ih =>
  intro x4 x5 res hm
  refine qQ ?_
  refine s_vu [] 0 [] [(16, vb (decide (x5 < ((a1.length : Nat) : Int))))] [] [] ?_
  refine q_sq ?_
  refine q_cn (decide (x5 < ((a1.length : Nat) : Int))) (fun b6 => ?_) (fun b6 => ?_)
  ·replace hm := qB b6 hm
   refine q_sk ?_
   refine q_sq ?_
   refine q_bk 1 ?_
   obtain ⟨g7, hm⟩ := qM hm
   refine s_vu [qd 0 (Dir.none) (inb_of g7)] 0 [16] [(5, vp 0 0)] [] [(0, bx 59 [ci ((a1.getD x5.toNat default).Len), ci (((a1.getD x5.toNat default).Sec).Low), tl e_Span default (((a1.getD x5.toNat default).Sec).Rows)])] ?_
   refine q_sq ?_
   obtain ⟨v8, h9, hm⟩ := qD hm
   refine s_vu [qc 2 [20] 1 (qA1 ((a1.getD x5.toNat default).Sec) v8 h9)] 1 [] [(6, vi v8)] [] [] ?_
   refine s_vu [] 1 [] [(23, vb (v8 != 0))] [] [] ?_
   refine q_cn (v8 != 0) (fun b10 => ?_) (fun b10 => ?_)
   ·replace hm := qB b10 hm
    refine s_vn [] 1 ⟨[(2, vi v8)], []⟩ ?_
    obtain rfl := oi hm
    refine q_rt ?_
    refine zB v8 ?_
    exact q_rm
   ·replace hm := qC b10 hm
    refine q_sk ?_
    refine q_sq ?_
    refine s_vu [] 1 [6, 23] [(29, vb ((((((a1.getD x5.toNat default).Sec).Rows).length : Nat) : Int) == 0))] [] [] ?_
    refine q_cn ((((((a1.getD x5.toNat default).Sec).Rows).length : Nat) : Int) == 0) (fun b11 => ?_) (fun b11 => ?_)
    ·replace hm := qB b11 hm
     refine s_vn [] 1 ⟨[(2, vi 18)], []⟩ ?_
     obtain rfl := oi hm
     refine q_rt ?_
     refine zB 18 ?_
     exact q_rm
    ·replace hm := qC b11 hm
     refine q_sk ?_
     refine q_sq ?_
     refine q_jn (ι := Bool) (fun p => qBM a1 x4 x5 p) (fun p => NL a1 x4 x5 (jZ a1 n) p = some res) ?_ ?_
     ·rintro x13 hm
      show H _ (qBM a1 x4 x5 x13) _ _
      refine q_cn x13 (fun b14 => ?_) (fun b14 => ?_)
      ·replace hm := qB b14 hm
       refine s_vn [] 1 ⟨[(2, vi 9)], []⟩ ?_
       obtain rfl := oi hm
       refine q_rt ?_
       refine zB 9 ?_
       exact q_rm
      ·replace hm := qC b14 hm
       refine q_sk ?_
       refine q_vu [] 1 [3, 5, 39] [(3, vi (w64 (x4 + ((a1.getD x5.toNat default).Len))))] [0] [] ?_
       refine q_vu [] 1 [15] [(15, vi (w64 (x5 + 1)))] [] [] ?_
       exact q_hl (HG a1 (w64 (x4 + ((a1.getD x5.toNat default).Len))) (w64 (x5 + 1))) (ih (w64 (x4 + ((a1.getD x5.toNat default).Len))) (w64 (x5 + 1)) _ hm)
     ·rcases Bool.eq_false_or_eq_true (decide (((a1.getD x5.toNat default).Len) < 1)) with b12 | b12
      ·replace hm := qB b12 hm
       refine q_vu [qf 3 b12] 1 [29] [(39, vb true)] [] [] ?_
       exact q_J (true) hm
      ·replace hm := qC b12 hm
       refine q_vu [qf 3 b12] 1 [29] [(39, vb (decide (((a1.getD x5.toNat default).Len) > (w64 (20000 - x4)))))] [] [] ?_
       exact q_J (decide (((a1.getD x5.toNat default).Len) > (w64 (20000 - x4)))) hm
  ·replace hm := qC b6 hm
   refine q_ex 0 ?_
   obtain rfl := oi hm
   exact wR () (by kernel_rfl) (by kernel_rfl)
theorem YO (a1 : List Slice) (r : Int) (hm : PP a1 = some r) : CtX Tryz.prog globs 56 0 0 [.one (tl qH default a1)] [] (OY r) (CC r) := by
 unfold PP at hm
 refine q_E Tryz.f56 45 fun E => ?_
 refine s_vn [] 0 ⟨[(0, vc (tl qH default a1))], []⟩ ?_
 refine q_sq ?_
 refine s_vu [] 0 [] [(9, vb (((a1.length : Nat) : Int) == 0))] [] [] ?_
 refine q_cn (((a1.length : Nat) : Int) == 0) (fun b2 => ?_) (fun b2 => ?_)
 ·replace hm := qB b2 hm
  refine s_vn [] 0 ⟨[(2, vi 3)], []⟩ ?_
  obtain rfl := oi hm
  refine q_rt ?_
  exact q_rm
 ·replace hm := qC b2 hm
  refine q_sk ?_
  refine q_sq ?_
  refine s_vu [] 0 [9] [(12, vb (decide (((a1.length : Nat) : Int) > 24)))] [] [] ?_
  refine q_cn (decide (((a1.length : Nat) : Int) > 24)) (fun b3 => ?_) (fun b3 => ?_)
  ·replace hm := qB b3 hm
   refine s_vn [] 0 ⟨[(2, vi 4)], []⟩ ?_
   obtain rfl := oi hm
   refine q_rt ?_
   exact q_rm
  ·replace hm := qC b3 hm
   refine q_sk ?_
   refine s_vu [] 0 [12] [(3, vi 0)] [] [] ?_
   refine q_sq ?_
   refine s_vu [] 0 [0] [(13, vc (tl qH default a1)), (14, vi ((a1.length : Nat) : Int)), (15, vi 0)] [] [] ?_
   obtain ⟨u17, h16, hm⟩ := qD hm
   refine zP (nd Tryz.f56 500) 0 (by kernel_rfl) FUEL (fun o => qA2) (fun v st => RetQ Tryz.prog Tryz.f56 (OY v) (CC v) .ret st) u17 (q_hl (HG a1 0 0) (qF6 E a1 FUEL 0 0 u17 h16)) ?_ ?_
   ·rintro v18 rfl st hr
    obtain rfl := oi hm
    exact hr
   ·rintro o15 rfl
    replace hm : _ = some r := hm
    refine s_vn [] 0 ⟨[(2, vi 0)], []⟩ ?_
    obtain rfl := oi hm
    refine q_rt ?_
    exact q_rm
def qLy (r : (List Slice)) : V := vc (tl qH default r)
def qLk (r : (List Slice)) : List (Nat × (Nat × O)) := []
theorem AQ (a1 : List Slice) (r : (List Slice)) (hm : PK a1 = some r) : CtX Tryz.prog globs 83 0 0 [.one (tl qH default a1)] [] (qLy r) (qLk r) := by
 unfold PK at hm
 refine q_E Tryz.f83 7 fun E => ?_
 refine s_vn [] 0 ⟨[(0, vc (tl qH default a1))], []⟩ ?_
 refine q_sq ?_
 obtain ⟨v2, h3, hm⟩ := qD hm
 refine s_vu [qc 1 [3] 0 (YO a1 v2 h3)] 0 [] [(5, vb (v2 != 0))] [] [] ?_
 refine q_cn (v2 != 0) (fun b4 => ?_) (fun b4 => ?_)
 ·replace hm := qB b4 hm
  refine s_vn [] 0 ⟨[(2, vc (.emp))], []⟩ ?_
  refine q_fn [.own 2 0 59 3 (rf qH ([] : List Slice))] ⟨[(2, vo 0 0 3 0)], [(0, ro 0 59 3 0 (rf qH ([] : List Slice)))]⟩ o0 ?_
  refine q_fn [.len 0 (([] : List Slice).length), .frz 0] ⟨[(2, vc (tl qH default ([] : List Slice)))], []⟩ (o1 (And.intro (And.intro (show 0 = ([] : List Slice).length from rfl) (show 0 = ([] : List Slice).length from rfl)) (Nat.le_refl (([] : List Slice).length)))) ?_
  obtain rfl := oi hm
  refine q_rt ?_
  exact q_rm
 ·replace hm := qC b4 hm
  refine q_sk ?_
  refine s_vn [] 0 ⟨[(2, vc (tl qH default a1))], []⟩ ?_
  obtain rfl := oi hm
  refine q_rt ?_
  exact q_rm
def qIf (r : (List Span)) : V := vo 0 0 2 r.length
def qHR (r : (List Span)) : List (Nat × (Nat × O)) := [(0, ro 0 26 2 r.length (rf e_Span r))]
def NC (a1 : List Slice) (l3 : List Span) (l3n : Nat) (x4 : Int) (x5 : Int) : St :=
 ⟨[(3, vo 0 0 2 l3n), (4, vi x4), (10, vc (tl qH default a1)), (11, vi ((a1.length : Nat) : Int)), (12, vi x5)], [(0, ro 0 26 2 l3n (rf e_Span l3))]⟩
def OD (l9 : List Span) : St :=
 ⟨[(3, vo 0 0 2 l9.length)], [(0, ro 0 26 2 l9.length (rf e_Span l9))]⟩
theorem qEr (E : Env 0) (a1 : List Slice) : ∀ (n : Nat) (l3 : List Span) (l3n : Nat) (x4 : Int) (x5 : Int) (res : (List Span)), l3.length = l3n → WA a1 n l3 x4 x5 = some res → HL (kx E 32 0) (nd Tryz.f85 244) (wC 0 (fun o => OD o) res) n (NC a1 l3 l3n x4 x5) := by
 intro n
 induction n with
 | zero =>
  intro l3 l3n x4 x5 res hl0 hm
  cases hm
 | succ n ih =>
  intro l3 l3n x4 x5 res hl0 hm
  subst hl0
  refine qQ ?_
  refine s_vu [] 1 [] [(13, vb (decide (x5 < ((a1.length : Nat) : Int))))] [] [] ?_
  refine q_sq ?_
  refine q_cn (decide (x5 < ((a1.length : Nat) : Int))) (fun b6 => ?_) (fun b6 => ?_)
  ·replace hm := qB b6 hm
   refine q_sk ?_
   refine q_sq ?_
   refine q_bk 1 ?_
   obtain ⟨g7, hm⟩ := qM hm
   refine s_vu [qd 1 (Dir.none) (inb_of g7)] 1 [13] [(5, vi x5), (6, vp 1 0)] [] [(1, bx 59 [ci ((a1.getD x5.toNat default).Len), ci (((a1.getD x5.toNat default).Sec).Low), tl e_Span default (((a1.getD x5.toNat default).Sec).Rows)])] ?_
   obtain ⟨g8, hm⟩ := qM hm
   refine s_vu [qd 8 (Dir.none) (inb_of g8), qd 9 (drw 0 0 (rf e_Span (l3.set x5.toNat (Span.mk x4 (w64 (x4 + ((a1.getD x5.toNat default).Len))))))) (stP e_Span default (Span.mk x4 (w64 (x4 + ((a1.getD x5.toNat default).Len)))) l3 l3.length x5.toNat 0 [ci x4, ci (w64 (x4 + ((a1.getD x5.toNat default).Len)))] rfl (toNat_lt (inb_of g8)) rfl)] 2 [5] [] [0] [(0, ro 0 26 2 l3.length (rf e_Span (l3.set x5.toNat (Span.mk x4 (w64 (x4 + ((a1.getD x5.toNat default).Len)))))))] ?_
   refine q_vu [] 2 [4, 6] [(4, vi (w64 (x4 + ((a1.getD x5.toNat default).Len))))] [1] [] ?_
   refine q_vu [] 2 [12] [(12, vi (w64 (x5 + 1)))] [] [] ?_
   exact q_hl (NC a1 (l3.set x5.toNat (Span.mk x4 (w64 (x4 + ((a1.getD x5.toNat default).Len))))) l3.length (w64 (x4 + ((a1.getD x5.toNat default).Len))) (w64 (x5 + 1))) (ih (l3.set x5.toNat (Span.mk x4 (w64 (x4 + ((a1.getD x5.toNat default).Len))))) l3.length (w64 (x4 + ((a1.getD x5.toNat default).Len))) (w64 (x5 + 1)) _ (len_set rfl) hm)
  ·replace hm := qC b6 hm
   refine q_ex 0 ?_
   obtain rfl := oi hm
   exact jP (by kernel_rfl) (by kernel_rfl)
theorem qGY (a1 : List Slice) (r : (List Span)) (hm : UX a1 = some r) : CtX Tryz.prog globs 85 0 0 [.one (tl qH default a1)] [] (qIf r) (qHR r) := by
 unfold UX at hm
 refine q_E Tryz.f85 32 fun E => ?_
 refine s_vn [] 0 ⟨[(0, vc (tl qH default a1))], []⟩ ?_
 obtain ⟨g2, hm⟩ := qM hm
 refine s_vu [qd 2 (drw 0 0 (rf e_Span (List.replicate (((a1.length : Nat) : Int).toNat) (Span.mk 0 0)))) (mkP e_Span default (Span.mk 0 0) ((a1.length : Nat) : Int) 16 [ci 0, ci 0] (mkOk_of g2) rfl)] 0 [] [(3, vo 0 0 2 (((a1.length : Nat) : Int).toNat))] [] [(0, ro 0 26 2 (((a1.length : Nat) : Int).toNat) (rf e_Span (List.replicate (((a1.length : Nat) : Int).toNat) (Span.mk 0 0))))] ?_
 refine s_vu [] 1 [] [(4, vi 0)] [] [] ?_
 refine q_sq ?_
 refine s_vu [] 1 [0] [(10, vc (tl qH default a1)), (11, vi ((a1.length : Nat) : Int)), (12, vi 0)] [] [] ?_
 obtain ⟨o10, h11, hm⟩ := qD hm
 refine zX (nd Tryz.f85 244) 0 (by kernel_rfl) FUEL (fun o => OD o) o10 (q_hl (NC a1 (List.replicate (((a1.length : Nat) : Int).toNat) (Span.mk 0 0)) (((a1.length : Nat) : Int).toNat) 0 0) (qEr E a1 FUEL (List.replicate (((a1.length : Nat) : Int).toNat) (Span.mk 0 0)) (((a1.length : Nat) : Int).toNat) 0 0 o10 len_rep h11)) ?_
 refine s_vu [] 1 [3] [(2, vo 0 0 2 o10.length)] [] [] ?_
 obtain rfl := oi hm
 refine q_rt ?_
 exact q_rm
def qJg (r : Int) : V := vi r
def qJO (r : Int) : List (Nat × (Nat × O)) := []
def CS (a2 : Box) (v3 : (List Slice)) (v5 : (List Span)) (x8 : Int) (x19 : Int) : St :=
 ⟨[(0, vc (tl qH default v3)), (3, vp 0 0), (5, vi x19), (12, vo 1 0 2 v5.length), (13, vi ((v5.length : Nat) : Int)), (14, vi x8)], [(0, bx 67 (zC a2)), (1, ro 0 26 2 v5.length (rf e_Span v5))]⟩
def FY (a2 : Box) (v3 : (List Slice)) (v5 : (List Span)) (x7 : Int) (x8 : Int) : St :=
 ⟨[(0, vc (tl qH default v3)), (3, vp 0 0), (5, vi x7), (12, vo 1 0 2 v5.length), (13, vi ((v5.length : Nat) : Int)), (14, vi x8)], [(0, bx 67 (zC a2)), (1, ro 0 26 2 v5.length (rf e_Span v5))]⟩
def qAk (x20 : Int) : St :=
 ⟨[(5, vi x20)], []⟩
theorem qEC (E : Env 0) (a2 : Box) (v3 : (List Slice)) (v5 : (List Span)) : ∀ (n : Nat) (x7 : Int) (x8 : Int) (res : Int), yU a2 v3 v5 n x7 x8 = some res → HL (kx E 43 0) (nd Tryz.f49 244) (wC 0 (fun o => qAk o) res) n (FY a2 v3 v5 x7 x8) := by
 intro n
 induction n with
 | zero =>
  intro x7 x8 res hm
  cases hm
 | succ n ih =>
  intro x7 x8 res hm
  refine qQ ?_
  refine s_vu [] 2 [] [(15, vb (decide (x8 < ((v5.length : Nat) : Int))))] [] [] ?_
  refine q_sq ?_
  refine q_cn (decide (x8 < ((v5.length : Nat) : Int))) (fun b9 => ?_) (fun b9 => ?_)
  ·replace hm := qB b9 hm
   refine q_sk ?_
   refine q_jn (ι := Int) (fun p => CS a2 v3 v5 x8 p) (fun p => GH x8 (yU a2 v3 v5 n) p = some res) ?_ ?_
   ·rintro x19 hm
    show H _ (CS a2 v3 v5 x8 x19) _ _
    refine q_vu [] 3 [14] [(14, vi (w64 (x8 + 1)))] [] [] ?_
    exact q_hl (FY a2 v3 v5 x19 (w64 (x8 + 1))) (ih x19 (w64 (x8 + 1)) _ hm)
   ·refine q_bk 1 ?_
    obtain ⟨g10, hm⟩ := qM hm
    refine s_vu [qd 1 (Dir.none) (inb_of g10), qd 2 (Dir.none) (toNat_lt (inb_of g10))] 2 [15] [(6, vi x8), (7, vp 2 0)] [] [(2, bx 26 [ci ((v5.getD x8.toNat default).A), ci ((v5.getD x8.toNat default).B)])] ?_
    obtain ⟨v11, h12, hm⟩ := qD hm
    obtain ⟨v13, h14, hm⟩ := qD hm
    refine s_vu [qc 3 [19, 21] 3 (RL (v5.getD x8.toNat default) a2.Z v11 h12), qc 4 [22] 3 (VX v11 v13 h14)] 3 [7] [(8, vi v13)] [2] [] ?_
    refine s_vu [] 3 [] [(25, vb (decide (v13 > 0)))] [] [] ?_
    refine q_cn (decide (v13 > 0)) (fun b15 => ?_) (fun b15 => ?_)
    ·replace hm := qB b15 hm
     obtain ⟨g16, hm⟩ := qM hm
     obtain ⟨v17, h18, hm⟩ := qD hm
     refine q_du [qd 4 (Dir.none) (inb_of g16), qc 12 [32, 37] 3 (CY ((v3.getD x8.toNat default).Sec) (Rect.mk a2.X a2.Y) v17 h18)] [0, 0, 0, 0, 12, 28, 60, 0, 128, 0, 512, 1920, 4092, 8190, 16383, 32767] 3 [5, 6, 8, 25] [(5, vi (w64 (x7 + (w64 (v13 * v17)))))] [] [] ?_
     exact q_J (w64 (x7 + (w64 (v13 * v17)))) hm
    ·replace hm := qC b15 hm
     refine q_sk ?_
     exact q_J (x7) hm
  ·replace hm := qC b9 hm
   refine q_ex 0 ?_
   obtain rfl := oi hm
   exact jP (by kernel_rfl) (by kernel_rfl)
theorem GY (a1 : List Slice) (a2 : Box) (r : Int) (hm : WX a1 a2 = some r) : CtX Tryz.prog globs 49 0 0 [.one (tl qH default a1), .agg (zC a2)] [] (qJg r) (qJO r) := by
 unfold WX at hm
 refine q_E Tryz.f49 43 fun E => ?_
 refine s_vn [] 0 ⟨[(0, vc (tl qH default a1)), (3, vp 0 0)], [(0, bx 67 (zC a2))]⟩ ?_
 obtain ⟨v3, h4, hm⟩ := qD hm
 refine s_vu [qc 1 [9] 1 (AQ a1 v3 h4)] 1 [0] [(0, vc (tl qH default v3))] [] [] ?_
 refine s_vu [] 1 [] [(5, vi 0)] [] [] ?_
 refine q_sq ?_
 obtain ⟨v5, h6, hm⟩ := qD hm
 refine s_vu [qc 1 [11] 1 (qGY v3 v5 h6)] 1 [] [(12, vo 1 0 2 v5.length), (13, vi ((v5.length : Nat) : Int)), (14, vi 0)] [] [(1, ro 0 26 2 v5.length (rf e_Span v5))] ?_
 obtain ⟨o21, h22, hm⟩ := qD hm
 refine zX (nd Tryz.f49 244) 0 (by kernel_rfl) FUEL (fun o => qAk o) o21 (q_hl (FY a2 v3 v5 0 0) (qEC E a2 v3 v5 FUEL 0 0 o21 h22)) ?_
 refine s_vn [] 2 ⟨[(4, vi o21)], []⟩ ?_
 obtain rfl := oi hm
 refine q_rt ?_
 exact q_rm
def qHu (r : Bool) : V := vb r
def qID (r : Bool) : List (Nat × (Nat × O)) := []
def OJ (x5 : Bool) : St :=
 ⟨[(6, vb x5)], []⟩
theorem WB (a1 : Span) (a2 : Int) (a3 : Int) (r : Bool) (hm : JS a1 a2 a3 = some r) : CtX Tryz.prog globs 130 0 0 [.agg (e_Span a1), .one (ci a2), .one (ci a3)] [] (qHu r) (qID r) := by
 unfold JS at hm
 refine q_E Tryz.f130 23 fun E => ?_
 refine s_vn [] 0 ⟨[(1, vi a2), (2, vi a3), (3, vp 0 0)], [(0, bx 26 (e_Span a1))]⟩ ?_
 refine q_jn (ι := Bool) (fun p => OJ p) (fun p => TY p = some r) ?_ ?_
 ·rintro x5 hm
  show H _ (OJ x5) _ _
  obtain rfl := oi hm
  refine q_rt ?_
  exact q_rm
 ·rcases Bool.eq_false_or_eq_true (decide ((imin a1.A a1.B) ≥ a2)) with b4 | b4
  ·replace hm := qB b4 hm
   refine q_vn [qf 7 b4] 1 ⟨[(6, vb (decide ((imax a1.A a1.B) ≤ a3)))], []⟩ ?_
   exact q_J (decide ((imax a1.A a1.B) ≤ a3)) hm
  ·replace hm := qC b4 hm
   refine q_vn [qf 7 b4] 1 ⟨[(6, vb false)], []⟩ ?_
   exact q_J (false) hm
def qGD (r : Bool) : V := vb r
def qGC (r : Bool) : List (Nat × (Nat × O)) := []
theorem zU (a1 : Span) (r : Bool) (hm : yK a1 = some r) : CtX Tryz.prog globs 129 0 0 [.agg (e_Span a1)] [] (qGD r) (qGC r) := by
 unfold yK at hm
 refine q_E Tryz.f129 8 fun E => ?_
 refine s_vn [] 0 ⟨[(1, vp 0 0)], [(0, bx 26 (e_Span a1))]⟩ ?_
 refine s_vn [] 1 ⟨[(2, vb (decide (a1.A ≥ a1.B)))], []⟩ ?_
 obtain rfl := oi hm
 refine q_rt ?_
 exact q_rm
def qI2 (r : Int) : V := vi r
def qJN (r : Int) : List (Nat × (Nat × O)) := []
def CQ (x23 : Bool) : St :=
 ⟨[(29, vb x23)], []⟩
def qAd (a1 : Defect) (x13 : Bool) : St :=
 ⟨[(3, vp 1 0), (15, vb x13)], [(1, bx 67 (zC a1.Box))]⟩
def qAl (a1 : Defect) (x3 : Bool) : St :=
 ⟨[(3, vp 1 0), (6, vb x3)], [(1, bx 67 (zC a1.Box))]⟩
theorem qHw (a1 : Defect) (r : Int) (hm : BW a1 = some r) : CtX Tryz.prog globs 94 0 0 [.agg (qI a1)] [] (qI2 r) (qJN r) := by
 unfold BW at hm
 refine q_E Tryz.f94 46 fun E => ?_
 refine s_vn [] 0 ⟨[(1, vp 0 0)], [(0, bx 135 (qI a1))]⟩ ?_
 refine s_vu [] 1 [] [(3, vp 1 0)] [] [(1, bx 67 (zC a1.Box))] ?_
 refine q_sq ?_
 refine q_bk 0 ?_
 refine q_jn (ι := Bool) (fun p => qAl a1 p) (fun p => DP a1 p = some r) ?_ ?_
 ·rintro x3 hm
  show H _ (qAl a1 x3) _ _
  refine q_cn x3 (fun b4 => ?_) (fun b4 => ?_)
  ·replace hm := qB b4 hm
   refine s_vn [] 2 ⟨[(2, vi 10)], []⟩ ?_
   obtain rfl := oi hm
   refine q_rt ?_
   exact q_rm
  ·replace hm := qC b4 hm
   refine q_jn (ι := Bool) (fun p => qAd a1 p) (fun p => KM a1 p = some r) ?_ ?_
   ·rintro x13 hm
    show H _ (qAd a1 x13) _ _
    refine q_cn x13 (fun b14 => ?_) (fun b14 => ?_)
    ·replace hm := qB b14 hm
     refine s_vn [] 2 ⟨[(2, vi 19)], []⟩ ?_
     obtain rfl := oi hm
     refine q_rt ?_
     exact q_rm
    ·replace hm := qC b14 hm
     refine q_jn (ι := Bool) (fun p => CQ p) (fun p => KW p = some r) ?_ ?_
     ·rintro x23 hm
      show H _ (CQ x23) _ _
      refine q_cn x23 (fun b24 => ?_) (fun b24 => ?_)
      ·replace hm := qB b24 hm
       refine s_vn [] 2 ⟨[(2, vi 9)], []⟩ ?_
       obtain rfl := oi hm
       refine q_rt ?_
       exact q_rm
      ·replace hm := qC b24 hm
       refine q_sk ?_
       refine s_vn [] 2 ⟨[(2, vi 0)], []⟩ ?_
       obtain rfl := oi hm
       refine q_rt ?_
       exact q_rm
     ·obtain ⟨v15, h16, hm⟩ := qD hm
      rcases Bool.eq_false_or_eq_true (!v15) with b17 | b17
      ·replace hm := qB b17 hm
       refine q_vn [qk 2 [31] 2 ⟨[(31, va (e_Span a1.Box.X))], []⟩ (WB a1.Box.X (-600) 600 v15 h16), qf 4 b17] 2 ⟨[(29, vb true)], []⟩ ?_
       exact q_J (true) hm
      ·replace hm := qC b17 hm
       obtain ⟨v18, h19, hm⟩ := qD hm
       rcases Bool.eq_false_or_eq_true (!v18) with b20 | b20
       ·replace hm := qB b20 hm
        refine q_vn [qk 2 [31] 2 ⟨[(31, va (e_Span a1.Box.X))], []⟩ (WB a1.Box.X (-600) 600 v15 h16), qf 4 b17, qk 7 [34, 36] 2 ⟨[(34, vb false), (36, va (e_Span a1.Box.Y))], []⟩ (WB a1.Box.Y (-600) 600 v18 h19), qf 10 b20] 2 ⟨[(29, vb true)], []⟩ ?_
        exact q_J (true) hm
       ·replace hm := qC b20 hm
        obtain ⟨v21, h22, hm⟩ := qD hm
        refine q_vn [qk 2 [31] 2 ⟨[(31, va (e_Span a1.Box.X))], []⟩ (WB a1.Box.X (-600) 600 v15 h16), qf 4 b17, qk 7 [34, 36] 2 ⟨[(34, vb false), (36, va (e_Span a1.Box.Y))], []⟩ (WB a1.Box.Y (-600) 600 v18 h19), qf 10 b20, qk 13 [40, 42] 2 ⟨[(40, vb false), (42, va (e_Span a1.Box.Z))], []⟩ (WB a1.Box.Z 0 20000 v21 h22)] 2 ⟨[(29, vb (!v21))], []⟩ ?_
        exact q_J (!v21) hm
   ·obtain ⟨v5, h6, hm⟩ := qD hm
    rcases Bool.eq_false_or_eq_true v5 with b7 | b7
    ·replace hm := qB b7 hm
     refine q_vu [qc 2 [17] 2 (zU a1.Box.X v5 h6), qf 3 b7] 2 [6] [(15, vb true)] [] [] ?_
     exact q_J (true) hm
    ·replace hm := qC b7 hm
     obtain ⟨v8, h9, hm⟩ := qD hm
     rcases Bool.eq_false_or_eq_true v8 with b10 | b10
     ·replace hm := qB b10 hm
      refine q_vu [qc 2 [17] 2 (zU a1.Box.X v5 h6), qf 3 b7, qk 6 [19, 21] 2 ⟨[(19, vb false), (21, va (e_Span a1.Box.Y))], []⟩ (zU a1.Box.Y v8 h9), qf 8 b10] 2 [6] [(15, vb true)] [] [] ?_
      exact q_J (true) hm
     ·replace hm := qC b10 hm
      obtain ⟨v11, h12, hm⟩ := qD hm
      refine q_vu [qc 2 [17] 2 (zU a1.Box.X v5 h6), qf 3 b7, qk 6 [19, 21] 2 ⟨[(19, vb false), (21, va (e_Span a1.Box.Y))], []⟩ (zU a1.Box.Y v8 h9), qf 8 b10, qk 11 [24, 26] 2 ⟨[(24, vb false), (26, va (e_Span a1.Box.Z))], []⟩ (zU a1.Box.Z v11 h12)] 2 [6] [(15, vb v11)] [] [] ?_
      exact q_J (v11) hm
 ·rcases Bool.eq_false_or_eq_true (decide (a1.Kind < 1)) with b2 | b2
  ·replace hm := qB b2 hm
   refine q_vu [qf 3 b2] 2 [1] [(6, vb true)] [0] [] ?_
   exact q_J (true) hm
  ·replace hm := qC b2 hm
   refine q_vu [qf 3 b2] 2 [1] [(6, vb (decide (a1.Kind > 6)))] [0] [] ?_
   exact q_J (decide (a1.Kind > 6)) hm
def AU (r : Int) : V := vi r
def II (r : Int) : List (Nat × (Nat × O)) := []
def FW (a1 : List Defect) (x3 : Int) : St :=
 ⟨[(9, vc (tl qI default a1)), (10, vi ((a1.length : Nat) : Int)), (11, vi x3)], []⟩
def CT : St :=
 ⟨[], []⟩
theorem qE0 (E : Env 0) (a1 : List Defect) : ∀ (n : Nat) (x3 : Int) (res : Int ⊕ Unit), QW a1 n x3 = some res → HL (kx E 21 0) (nd Tryz.f57 116) (wN 0 (fun o => CT) (fun v st => RetQ Tryz.prog Tryz.f57 (AU v) (II v) .ret st) res) n (FW a1 x3) := by
 intro n
 induction n with
 | zero =>
  intro x3 res hm
  cases hm
 | succ n ih =>
  intro x3 res hm
  refine qQ ?_
  refine s_vu [] 0 [] [(12, vb (decide (x3 < ((a1.length : Nat) : Int))))] [] [] ?_
  refine q_sq ?_
  refine q_cn (decide (x3 < ((a1.length : Nat) : Int))) (fun b4 => ?_) (fun b4 => ?_)
  ·replace hm := qB b4 hm
   refine q_sk ?_
   refine q_sq ?_
   refine q_bk 1 ?_
   obtain ⟨g5, hm⟩ := qM hm
   refine s_vu [qd 0 (Dir.none) (inb_of g5)] 0 [12] [(4, vp 0 0)] [] [(0, bx 135 [ci ((a1.getD x3.toNat default).Kind), ci ((((a1.getD x3.toNat default).Box).X).A), ci ((((a1.getD x3.toNat default).Box).X).B), ci ((((a1.getD x3.toNat default).Box).Y).A), ci ((((a1.getD x3.toNat default).Box).Y).B), ci ((((a1.getD x3.toNat default).Box).Z).A), ci ((((a1.getD x3.toNat default).Box).Z).B)])] ?_
   obtain ⟨v6, h7, hm⟩ := qD hm
   refine s_vu [qc 1 [15] 1 (qHw (a1.getD x3.toNat default) v6 h7)] 1 [4] [(5, vi v6)] [0] [] ?_
   refine s_vu [] 1 [] [(18, vb (v6 != 0))] [] [] ?_
   refine q_cn (v6 != 0) (fun b8 => ?_) (fun b8 => ?_)
   ·replace hm := qB b8 hm
    refine s_vn [] 1 ⟨[(2, vi v6)], []⟩ ?_
    obtain rfl := oi hm
    refine q_rt ?_
    refine zB v6 ?_
    exact q_rm
   ·replace hm := qC b8 hm
    refine q_sk ?_
    refine q_vu [] 1 [5, 11, 18] [(11, vi (w64 (x3 + 1)))] [] [] ?_
    exact q_hl (FW a1 (w64 (x3 + 1))) (ih (w64 (x3 + 1)) _ hm)
  ·replace hm := qC b4 hm
   refine q_ex 0 ?_
   obtain rfl := oi hm
   exact wR () (by kernel_rfl) (by kernel_rfl)
theorem DQ (a1 : List Defect) (r : Int) (hm : RM a1 = some r) : CtX Tryz.prog globs 57 0 0 [.one (tl qI default a1)] [] (AU r) (II r) := by
 unfold RM at hm
 refine q_E Tryz.f57 21 fun E => ?_
 refine s_vn [] 0 ⟨[(0, vc (tl qI default a1))], []⟩ ?_
 refine q_sq ?_
 refine s_vu [] 0 [] [(8, vb (decide (((a1.length : Nat) : Int) > 64)))] [] [] ?_
 refine q_cn (decide (((a1.length : Nat) : Int) > 64)) (fun b2 => ?_) (fun b2 => ?_)
 ·replace hm := qB b2 hm
  refine s_vn [] 0 ⟨[(2, vi 4)], []⟩ ?_
  obtain rfl := oi hm
  refine q_rt ?_
  exact q_rm
 ·replace hm := qC b2 hm
  refine q_sk ?_
  refine q_sq ?_
  refine s_vn [] 0 ⟨[(9, vc (tl qI default a1)), (10, vi ((a1.length : Nat) : Int)), (11, vi 0)], []⟩ ?_
  obtain ⟨u11, h10, hm⟩ := qD hm
  refine zP (nd Tryz.f57 116) 0 (by kernel_rfl) FUEL (fun o => CT) (fun v st => RetQ Tryz.prog Tryz.f57 (AU v) (II v) .ret st) u11 (q_hl (FW a1 0) (qE0 E a1 FUEL 0 u11 h10)) ?_ ?_
  ·rintro v12 rfl st hr
   obtain rfl := oi hm
   exact hr
  ·rintro o9 rfl
   replace hm : _ = some r := hm
   refine s_vn [] 0 ⟨[(2, vi 0)], []⟩ ?_
   obtain rfl := oi hm
   refine q_rt ?_
   exact q_rm
def qHQ (r : Bool) : V := vb r
def qH3 (r : Bool) : List (Nat × (Nat × O)) := []
def IX (x3 : Bool) : St :=
 ⟨[(2, vb x3)], []⟩
theorem TM (a1 : Int) (r : Bool) (hm : XY a1 = some r) : CtX Tryz.prog globs 131 0 0 [.one (.val (.int .u8 a1))] [] (qHQ r) (qH3 r) := by
 unfold XY at hm
 refine q_E Tryz.f131 9 fun E => ?_
 refine s_vn [] 0 ⟨[(0, vc (.val (.int .u8 a1)))], []⟩ ?_
 refine q_jn (ι := Bool) (fun p => IX p) (fun p => TU p = some r) ?_ ?_
 ·rintro x3 hm
  show H _ (IX x3) _ _
  obtain rfl := oi hm
  refine q_rt ?_
  exact q_rm
 ·rcases Bool.eq_false_or_eq_true (decide (97 ≤ a1)) with b2 | b2
  ·replace hm := qB b2 hm
   refine q_vn [qf 2 b2] 0 ⟨[(2, vb (decide (a1 ≤ 122)))], []⟩ ?_
   exact q_J (decide (a1 ≤ 122)) hm
  ·replace hm := qC b2 hm
   refine q_vn [qf 2 b2] 0 ⟨[(2, vb false)], []⟩ ?_
   exact q_J (false) hm
def qHZ (r : Bool) : V := vb r
def qIo (r : Bool) : List (Nat × (Nat × O)) := []
def OM (x3 : Bool) : St :=
 ⟨[(2, vb x3)], []⟩
theorem qBc (a1 : Int) (r : Bool) (hm : UP a1 = some r) : CtX Tryz.prog globs 132 0 0 [.one (.val (.int .u8 a1))] [] (qHZ r) (qIo r) := by
 unfold UP at hm
 refine q_E Tryz.f132 9 fun E => ?_
 refine s_vn [] 0 ⟨[(0, vc (.val (.int .u8 a1)))], []⟩ ?_
 refine q_jn (ι := Bool) (fun p => OM p) (fun p => TP p = some r) ?_ ?_
 ·rintro x3 hm
  show H _ (OM x3) _ _
  obtain rfl := oi hm
  refine q_rt ?_
  exact q_rm
 ·rcases Bool.eq_false_or_eq_true (decide (48 ≤ a1)) with b2 | b2
  ·replace hm := qB b2 hm
   refine q_vn [qf 2 b2] 0 ⟨[(2, vb (decide (a1 ≤ 57)))], []⟩ ?_
   exact q_J (decide (a1 ≤ 57)) hm
  ·replace hm := qC b2 hm
   refine q_vn [qf 2 b2] 0 ⟨[(2, vb false)], []⟩ ?_
   exact q_J (false) hm
end Saw
end Go.SL
