import Derived.Test.YtjobdnkaonbgnaaGreatEBase
import Derived.Test.YtjobdnkaonbgnaaGreatEFa7
import Derived.Test.YtjobdnkaonbgnaaGreatEFa8
set_option linter.unusedVariables false
set_option linter.unusedSimpArgs false
namespace Go.SL
namespace Saw
open Go.Proofs
set_option maxHeartbeats 4000000
set_option maxRecDepth 100000
def IA (r : Bool) : V := vb r
def AO (r : Bool) : List (Nat × (Nat × O)) := []
def CH (a1 : List Slice) (a2 : List Defect) (a3 : Product) (a4 : Box) (x19 : Int) (x25 : Bool) : St :=
 ⟨[(0, vc (tl qI default a1)), (1, vc (tl qH default a2)), (6, vp 0 0), (7, vp 1 0), (15, vi x19), (94, vb x25)], [(0, bx 62 (qA a3)), (1, bx 67 (zG a4))]⟩
def FE (a1 : List Slice) (a2 : List Defect) (a3 : Product) (a4 : Box) (x19 : Int) : St :=
 ⟨[(0, vc (tl qI default a1)), (1, vc (tl qH default a2)), (6, vp 0 0), (7, vp 1 0), (15, vi x19)], [(0, bx 62 (qA a3)), (1, bx 67 (zG a4))]⟩
def CJ (a1 : List Slice) (a3 : Product) (a4 : Box) : St :=
 ⟨[(0, vc (tl qI default a1)), (6, vp 0 0), (7, vp 1 0)], [(0, bx 62 (qA a3)), (1, bx 67 (zG a4))]⟩
def CI (a1 : List Slice) (a2 : List Defect) (a3 : Product) (a4 : Box) (x17 : Bool) : St :=
 ⟨[(0, vc (tl qI default a1)), (1, vc (tl qH default a2)), (6, vp 0 0), (7, vp 1 0), (74, vb x17)], [(0, bx 62 (qA a3)), (1, bx 67 (zG a4))]⟩
theorem qE2 (E : Env 0) (a1 : List Slice) (a2 : List Defect) (a3 : Product) (a4 : Box) : ∀ (n : Nat) (x19 : Int) (res : Bool ⊕ Unit), jJ a2 a4 n x19 = some res → HL (kx E 101 0) (nd Tryz.f44 2036) (wI 0 (fun o => CJ a1 a3 a4) (fun v st => RetQ Tryz.prog Tryz.f44 (IA v) (AO v) .ret st) res) n (FE a1 a2 a3 a4 x19) := by
 intro n
 induction n with
 | zero =>
  intro x19 res hm
  cases hm
 | succ n ih =>
  intro x19 res hm
  refine qR ?_
  refine q_sq ?_
  refine q_sq ?_
  refine q_vu [] 2 [] [(78, vb (decide (x19 < ((a2.length : Nat) : Int))))] [] [] ?_
  refine q_cn (decide (x19 < ((a2.length : Nat) : Int))) (fun b20 => ?_) (fun b20 => ?_)
  ·replace hm := qC b20 hm
   refine q_sk ?_
   refine q_sq ?_
   refine q_bk 1 ?_
   refine q_jn (ι := Bool) (fun p => CH a1 a2 a3 a4 x19 p) (fun p => GB x19 (jJ a2 a4 n) p = some res) ?_ ?_
   ·rintro x25 hm
    show H _ (CH a1 a2 a3 a4 x19 x25) _ _
    refine q_cn x25 (fun b26 => ?_) (fun b26 => ?_)
    ·replace hm := qC b26 hm
     refine q_sq ?_
     refine q_vn [] 2 ⟨[(8, vb false)], []⟩ ?_
     obtain rfl := Option.some.inj hm
     refine q_rt ?_
     refine qY false ?_
     exact q_rm
    ·replace hm := qB b26 hm
     refine q_sk ?_
     refine q_vu [] 2 [15, 94] [(15, vi (w64 (x19 + 1)))] [] [] ?_
     exact q_hl (FE a1 a2 a3 a4 (w64 (x19 + 1))) (ih (w64 (x19 + 1)) _ hm)
   ·obtain ⟨g21, hm⟩ := qL hm
    rcases Bool.eq_false_or_eq_true (((a2.getD x19.toNat default).Kind) == 3) with b22 | b22
    ·replace hm := qC b22 hm
     obtain ⟨v23, h24, hm⟩ := qD hm
     refine q_du [qd 2 (Dir.none) (inb_of g21), qf 6 b22, qd 9 (Dir.none) (inb_of g21), qk 12 [87, 91, 92] 2 ⟨[(87, vb true), (91, va [ci ((a2.getD x19.toNat default).Kind), ci ((((a2.getD x19.toNat default).Box).X).A), ci ((((a2.getD x19.toNat default).Box).X).B), ci ((((a2.getD x19.toNat default).Box).Y).A), ci ((((a2.getD x19.toNat default).Box).Y).B), ci ((((a2.getD x19.toNat default).Box).Z).A), ci ((((a2.getD x19.toNat default).Box).Z).B)]), (92, va (zG a4))], []⟩ (qAT (a2.getD x19.toNat default) a4 v23 h24)] [0, 0, 3, 7, 15, 31, 63, 127, 127, 511, 1023, 127, 4095, 8191] 2 [78] [(94, vb v23)] [] [] ?_
     exact q_J (v23) hm
    ·replace hm := qB b22 hm
     refine q_du [qd 2 (Dir.none) (inb_of g21), qf 6 b22] [0, 0, 3, 7, 15, 31, 63, 127, 127, 511, 1023, 127, 4095, 8191] 2 [78] [(94, vb false)] [] [] ?_
     exact q_J (false) hm
  ·replace hm := qB b20 hm
   refine q_ex 0 ?_
   obtain rfl := Option.some.inj hm
   exact wJ () (by kernel_rfl) (by kernel_rfl)
theorem qHh (a1 : List Slice) (a2 : List Defect) (a3 : Product) (a4 : Box) (r : Bool) (hm : DT a1 a2 a3 a4 = some r) : CtX Tryz.prog globs 44 0 0 [.one (tl qI default a1), .one (tl qH default a2), .agg (qA a3), .agg (zG a4)] [] (IA r) (AO r) := by
 unfold DT at hm
 refine q_E Tryz.f44 101 fun E => ?_
 refine q_sq ?_
 refine q_vn [] 0 ⟨[(0, vc (tl qI default a1)), (1, vc (tl qH default a2)), (6, vp 0 0), (7, vp 1 0)], [(0, bx 62 (qA a3)), (1, bx 67 (zG a4))]⟩ ?_
 refine q_sq ?_
 refine q_sq ?_
 obtain ⟨v5, h6, hm⟩ := qD hm
 refine q_vu [qc 2 [16, 17] 2 (qG4 a1 a4 v5 h6)] 2 [] [(19, vb (!v5))] [] [] ?_
 refine q_cn (!v5) (fun b7 => ?_) (fun b7 => ?_)
 ·replace hm := qC b7 hm
  refine q_sq ?_
  refine q_vn [] 2 ⟨[(8, vb false)], []⟩ ?_
  obtain rfl := Option.some.inj hm
  refine q_rt ?_
  exact q_rm
 ·replace hm := qB b7 hm
  refine q_sk ?_
  refine q_sq ?_
  refine q_du [] [0, 1, 3, 0, 8, 24, 63, 0, 128, 384, 0, 1024, 3072, 8064, 127, 32767] 2 [19] [(9, vi (w64 (a4.X.B - a4.X.A))), (10, vi (w64 (a4.Y.B - a4.Y.A)))] [] [] ?_
  refine q_sq ?_
  obtain ⟨v8, h9, hm⟩ := qD hm
  refine q_vu [qc 1 [35] 2 (NA a3 v8 h9)] 2 [] [(11, vi v8.1), (12, vi v8.2)] [] [] ?_
  refine q_sq ?_
  obtain ⟨v10, h11, hm⟩ := qD hm
  refine q_vu [qc 8 [40, 47] 2 (qDp a3 (w64 (a4.Z.B - a4.Z.A)) v10 h11)] 2 [] [(14, vb v10.2)] [] [] ?_
  refine q_sq ?_
  refine q_jn (ι := Bool) (fun p => CI a1 a2 a3 a4 p) (fun p => wD a1 a2 a3 a4 p = some r) ?_ ?_
  ·rintro x17 hm
   show H _ (CI a1 a2 a3 a4 x17) _ _
   refine q_cn x17 (fun b18 => ?_) (fun b18 => ?_)
   ·replace hm := qC b18 hm
    refine q_sq ?_
    refine q_vn [] 2 ⟨[(8, vb false)], []⟩ ?_
    obtain rfl := Option.some.inj hm
    refine q_rt ?_
    exact q_rm
   ·replace hm := qB b18 hm
    refine q_sk ?_
    refine q_sq ?_
    refine q_sq ?_
    refine q_vu [] 2 [74] [(15, vi 0)] [] [] ?_
    obtain ⟨u29, h28, hm⟩ := qD hm
    refine zM (nd Tryz.f44 2036) 0 (by kernel_rfl) FUEL (fun o => CJ a1 a3 a4) (fun v st => RetQ Tryz.prog Tryz.f44 (IA v) (AO v) .ret st) u29 (q_hl (FE a1 a2 a3 a4 0) (qE2 E a1 a2 a3 a4 FUEL 0 u29 h28)) ?_ ?_
    ·rintro v30 rfl st hr
     obtain rfl := Option.some.inj hm
     exact hr
    ·rintro o27 rfl
     replace hm : _ = some r := hm
     refine q_sq ?_
     obtain ⟨v31, h32, hm⟩ := qD hm
     refine q_dn [qc 2 [95, 96] 2 (qKp a1 a4 v31 h32)] [0, 0, 3, 0, 8, 31, 63] 2 ⟨[(8, vb (decide (v31 ≤ a3.Wane)))], []⟩ ?_
     obtain rfl := Option.some.inj hm
     refine q_rt ?_
     exact q_rm
  ·rcases Bool.eq_false_or_eq_true (!v10.2) with b12 | b12
   ·replace hm := qC b12 hm
    refine q_vu [qf 2 b12] 2 [9, 10, 11, 12, 14] [(74, vb true)] [] [] ?_
    exact q_J (true) hm
   ·replace hm := qB b12 hm
    rcases Bool.eq_false_or_eq_true ((w64 (a4.X.B - a4.X.A)) == v8.1) with b13 | b13
    ·replace hm := qC b13 hm
     rcases Bool.eq_false_or_eq_true (!((w64 (a4.Y.B - a4.Y.A)) == v8.2)) with b14 | b14
     ·replace hm := qC b14 hm
      rcases Bool.eq_false_or_eq_true ((w64 (a4.X.B - a4.X.A)) == v8.2) with b15 | b15
      ·replace hm := qC b15 hm
       refine q_vu [qf 2 b12, qf 6 b13, qf 12 b14, qf 16 b15] 2 [9, 10, 11, 12, 14] [(74, vb (!((w64 (a4.Y.B - a4.Y.A)) == v8.1)))] [] [] ?_
       exact q_J (!((w64 (a4.Y.B - a4.Y.A)) == v8.1)) hm
      ·replace hm := qB b15 hm
       refine q_vu [qf 2 b12, qf 6 b13, qf 12 b14, qf 16 b15] 2 [9, 10, 11, 12, 14] [(74, vb true)] [] [] ?_
       exact q_J (true) hm
     ·replace hm := qB b14 hm
      refine q_vu [qf 2 b12, qf 6 b13, qf 12 b14] 2 [9, 10, 11, 12, 14] [(74, vb false)] [] [] ?_
      exact q_J (false) hm
    ·replace hm := qB b13 hm
     rcases Bool.eq_false_or_eq_true ((w64 (a4.X.B - a4.X.A)) == v8.2) with b16 | b16
     ·replace hm := qC b16 hm
      refine q_vu [qf 2 b12, qf 6 b13, qf 16 b16] 2 [9, 10, 11, 12, 14] [(74, vb (!((w64 (a4.Y.B - a4.Y.A)) == v8.1)))] [] [] ?_
      exact q_J (!((w64 (a4.Y.B - a4.Y.A)) == v8.1)) hm
     ·replace hm := qB b16 hm
      refine q_vu [qf 2 b12, qf 6 b13, qf 16 b16] 2 [9, 10, 11, 12, 14] [(74, vb true)] [] [] ?_
      exact q_J (true) hm
def qKG (r : Int) : V := vi r
def qKv (r : Int) : List (Nat × (Nat × O)) := []
def qBo (a1 : List Defect) (a3 : Box) (a4 : Int) (x8 : Int) (x14 : Int) : St :=
 ⟨[(0, vc (tl qH default a1)), (3, vi a4), (6, vp 1 0), (9, vi x14), (11, vi x8)], [(1, bx 67 (zG a3))]⟩
def ML (a1 : List Defect) (a3 : Box) (a4 : Int) (x7 : Int) (x8 : Int) : St :=
 ⟨[(0, vc (tl qH default a1)), (3, vi a4), (6, vp 1 0), (9, vi x7), (11, vi x8)], [(1, bx 67 (zG a3))]⟩
def qAO (x15 : Int) : St :=
 ⟨[(9, vi x15)], []⟩
theorem qFM (E : Env 0) (a1 : List Defect) (a3 : Box) (a4 : Int) : ∀ (n : Nat) (x7 : Int) (x8 : Int) (res : Int), QC a1 a3 a4 n x7 x8 = some res → HL (kx E 41 0) (nd Tryz.f45 116) (wE 0 (fun o => qAO o) res) n (ML a1 a3 a4 x7 x8) := by
 intro n
 induction n with
 | zero =>
  intro x7 x8 res hm
  cases hm
 | succ n ih =>
  intro x7 x8 res hm
  refine qR ?_
  refine q_sq ?_
  refine q_sq ?_
  refine q_vu [] 2 [] [(27, vb (decide (x8 < ((a1.length : Nat) : Int))))] [] [] ?_
  refine q_cn (decide (x8 < ((a1.length : Nat) : Int))) (fun b9 => ?_) (fun b9 => ?_)
  ·replace hm := qC b9 hm
   refine q_sk ?_
   refine q_jn (ι := Int) (fun p => qBo a1 a3 a4 x8 p) (fun p => ND x8 (QC a1 a3 a4 n) p = some res) ?_ ?_
   ·rintro x14 hm
    show H _ (qBo a1 a3 a4 x8 x14) _ _
    refine q_vu [] 2 [11] [(11, vi (w64 (x8 + 1)))] [] [] ?_
    exact q_hl (ML a1 a3 a4 x14 (w64 (x8 + 1))) (ih x14 (w64 (x8 + 1)) _ hm)
   ·refine q_bk 1 ?_
    refine q_sq ?_
    obtain ⟨g10, hm⟩ := qL hm
    obtain ⟨v11, h12, hm⟩ := qD hm
    refine q_du [qd 2 (Dir.none) (inb_of g10), qc 5 [33, 34] 2 (qAT (a1.getD x8.toNat default) a3 v11 h12)] [0, 0, 3, 7, 0, 31] 2 [27] [(35, vb v11)] [] [] ?_
    refine q_cn v11 (fun b13 => ?_) (fun b13 => ?_)
    ·replace hm := qC b13 hm
     refine q_vu [] 2 [9, 35] [(9, vi (w64 (x7 - a4)))] [] [] ?_
     exact q_J (w64 (x7 - a4)) hm
    ·replace hm := qB b13 hm
     refine q_sk ?_
     exact q_J (x7) hm
  ·replace hm := qB b9 hm
   refine q_ex 0 ?_
   obtain rfl := Option.some.inj hm
   exact jL (by kernel_rfl) (by kernel_rfl)
theorem qIS (a1 : List Defect) (a2 : Product) (a3 : Box) (a4 : Int) (r : Int) (hm : LK a1 a2 a3 a4 = some r) : CtX Tryz.prog globs 45 0 0 [.one (tl qH default a1), .agg (qA a2), .agg (zG a3), .one (ci a4)] [] (qKG r) (qKv r) := by
 unfold LK at hm
 refine q_E Tryz.f45 41 fun E => ?_
 refine q_sq ?_
 refine q_vn [] 0 ⟨[(0, vc (tl qH default a1)), (3, vi a4), (5, vp 0 0), (6, vp 1 0)], [(0, bx 62 (qA a2)), (1, bx 67 (zG a3))]⟩ ?_
 refine q_sq ?_
 obtain ⟨v5, h6, hm⟩ := qD hm
 refine q_vu [qc 8 [13, 20] 2 (qDp a2 (w64 (a3.Z.B - a3.Z.A)) v5 h6)] 2 [5] [(9, vi v5.1)] [0] [] ?_
 refine q_sq ?_
 refine q_sq ?_
 refine q_vu [] 2 [] [(11, vi 0)] [] [] ?_
 obtain ⟨o16, h17, hm⟩ := qD hm
 refine zX (nd Tryz.f45 116) 0 (by kernel_rfl) FUEL (fun o => qAO o) o16 (q_hl (ML a1 a3 a4 v5.1 0) (qFM E a1 a3 a4 FUEL v5.1 0 o16 h17)) ?_
 refine q_sq ?_
 refine q_vn [] 2 ⟨[(8, vi (imax 0 o16))], []⟩ ?_
 obtain rfl := Option.some.inj hm
 refine q_rt ?_
 exact q_rm
set_option maxRecDepth 100000
def qMB (r : Bool) : V := vb r
def qMO (r : Bool) : List (Nat × (Nat × O)) := []
def qBS (x5 : Bool) : St :=
 ⟨[(6, vb x5)], []⟩
theorem zC (a1 : Int) (a2 : Int) (a3 : Int) (r : Bool) (hm : jY a1 a2 a3 = some r) : CtX Tryz.prog globs 41 0 0 [.one (ci a1), .one (ci a2), .one (ci a3)] [] (qMB r) (qMO r) := by
 unfold jY at hm
 refine q_E Tryz.f41 15 fun E => ?_
 refine q_sq ?_
 refine q_vn [] 0 ⟨[(0, vi a1), (1, vi a2), (2, vi a3)], []⟩ ?_
 refine q_jn (ι := Bool) (fun p => qBS p) (fun p => LR p = some r) ?_ ?_
 ·rintro x5 hm
  show H _ (qBS x5) _ _
  obtain rfl := Option.some.inj hm
  refine q_rt ?_
  exact q_rm
 ·rcases Bool.eq_false_or_eq_true (decide (a1 ≥ a2)) with b4 | b4
  ·replace hm := qC b4 hm
   refine q_vn [qf 3 b4] 0 ⟨[(6, vb (decide (a1 ≤ a3)))], []⟩ ?_
   exact q_J (decide (a1 ≤ a3)) hm
  ·replace hm := qB b4 hm
   refine q_vn [qf 3 b4] 0 ⟨[(6, vb false)], []⟩ ?_
   exact q_J (false) hm
open Go.Proofs
set_option maxHeartbeats 4000000
set_option maxRecDepth 100000
def qOh (r : Bool) : V := vb r
def qNR (r : Bool) : List (Nat × (Nat × O)) := []
def qD2 (x5 : Bool) : St :=
 ⟨[(6, vb x5)], []⟩
theorem VH (a1 : Span) (a2 : Int) (a3 : Int) (r : Bool) (hm : MB a1 a2 a3 = some r) : CtX Tryz.prog globs 112 0 0 [.agg (e_Span a1), .one (ci a2), .one (ci a3)] [] (qOh r) (qNR r) := by
 unfold MB at hm
 refine q_E Tryz.f112 17 fun E => ?_
 refine q_sq ?_
 refine q_vn [] 0 ⟨[(1, vi a2), (2, vi a3), (3, vp 0 0)], [(0, bx 26 (e_Span a1))]⟩ ?_
 refine q_jn (ι := Bool) (fun p => qD2 p) (fun p => IJ p = some r) ?_ ?_
 ·rintro x5 hm
  show H _ (qD2 x5) _ _
  obtain rfl := Option.some.inj hm
  refine q_rt ?_
  exact q_rm
 ·rcases Bool.eq_false_or_eq_true (decide (a2 ≤ a1.A)) with b4 | b4
  ·replace hm := qC b4 hm
   refine q_vn [qf 4 b4] 1 ⟨[(6, vb (decide (a1.B ≤ a3)))], []⟩ ?_
   exact q_J (decide (a1.B ≤ a3)) hm
  ·replace hm := qB b4 hm
   refine q_vn [qf 4 b4] 1 ⟨[(6, vb false)], []⟩ ?_
   exact q_J (false) hm
def qJA (r : Bool) : V := vb r
def qIJ (r : Bool) : List (Nat × (Nat × O)) := []
def CS (x10 : Bool) : St :=
 ⟨[(2, vb x10)], []⟩
theorem qId (a1 : Box) (r : Bool) (hm : GZ a1 = some r) : CtX Tryz.prog globs 71 0 0 [.agg (zG a1)] [] (qJA r) (qIJ r) := by
 unfold GZ at hm
 refine q_E Tryz.f71 16 fun E => ?_
 refine q_sq ?_
 refine q_vn [] 0 ⟨[(1, vp 0 0)], [(0, bx 67 (zG a1))]⟩ ?_
 refine q_jn (ι := Bool) (fun p => CS p) (fun p => KO p = some r) ?_ ?_
 ·rintro x10 hm
  show H _ (CS x10) _ _
  obtain rfl := Option.some.inj hm
  refine q_rt ?_
  exact q_rm
 ·obtain ⟨v2, h3, hm⟩ := qD hm
  rcases Bool.eq_false_or_eq_true v2 with b4 | b4
  ·replace hm := qC b4 hm
   obtain ⟨v5, h6, hm⟩ := qD hm
   rcases Bool.eq_false_or_eq_true v5 with b7 | b7
   ·replace hm := qC b7 hm
    obtain ⟨v8, h9, hm⟩ := qD hm
    refine q_vn [qk 2 [4] 1 ⟨[(4, va (e_Span a1.X))], []⟩ (VH a1.X (-600) 600 v2 h3), qf 3 b4, qk 6 [6, 8] 1 ⟨[(6, vb true), (8, va (e_Span a1.Y))], []⟩ (VH a1.Y (-600) 600 v5 h6), qf 8 b7, qk 11 [11, 13] 1 ⟨[(11, vb true), (13, va (e_Span a1.Z))], []⟩ (VH a1.Z 0 20000 v8 h9)] 1 ⟨[(2, vb v8)], []⟩ ?_
    exact q_J (v8) hm
   ·replace hm := qB b7 hm
    refine q_vn [qk 2 [4] 1 ⟨[(4, va (e_Span a1.X))], []⟩ (VH a1.X (-600) 600 v2 h3), qf 3 b4, qk 6 [6, 8] 1 ⟨[(6, vb true), (8, va (e_Span a1.Y))], []⟩ (VH a1.Y (-600) 600 v5 h6), qf 8 b7] 1 ⟨[(2, vb false)], []⟩ ?_
    exact q_J (false) hm
  ·replace hm := qB b4 hm
   refine q_vn [qk 2 [4] 1 ⟨[(4, va (e_Span a1.X))], []⟩ (VH a1.X (-600) 600 v2 h3), qf 3 b4] 1 ⟨[(2, vb false)], []⟩ ?_
   exact q_J (false) hm
set_option maxRecDepth 100000
def OO (r : Int) : V := vi r
def OP (r : Int) : List (Nat × (Nat × O)) := []
def qBs (a1 : List Defect) (x3 : Int) (x7 : Bool) : St :=
 ⟨[(0, vc (tl qH default a1)), (3, vi x3), (13, vb x7)], []⟩
def ME (a1 : List Defect) (x3 : Int) : St :=
 ⟨[(0, vc (tl qH default a1)), (3, vi x3)], []⟩
def qBv : St :=
 ⟨[], []⟩
theorem qFA (E : Env 0) (a1 : List Defect) : ∀ (n : Nat) (x3 : Int) (res : Int ⊕ Unit), jZ a1 n x3 = some res → HL (kx E 43 0) (nd Tryz.f36 116) (wI 0 (fun o => qBv) (fun v st => RetQ Tryz.prog Tryz.f36 (OO v) (OP v) .ret st) res) n (ME a1 x3) := by
 intro n
 induction n with
 | zero =>
  intro x3 res hm
  cases hm
 | succ n ih =>
  intro x3 res hm
  refine qR ?_
  refine q_sq ?_
  refine q_sq ?_
  refine q_vu [] 0 [] [(10, vb (decide (x3 < ((a1.length : Nat) : Int))))] [] [] ?_
  refine q_cn (decide (x3 < ((a1.length : Nat) : Int))) (fun b4 => ?_) (fun b4 => ?_)
  ·replace hm := qC b4 hm
   refine q_sk ?_
   refine q_sq ?_
   refine q_bk 1 ?_
   refine q_bk 2 ?_
   refine q_jn (ι := Bool) (fun p => qBs a1 x3 p) (fun p => BU a1 x3 (jZ a1 n) p = some res) ?_ ?_
   ·rintro x7 hm
    show H _ (qBs a1 x3 x7) _ _
    refine q_cn x7 (fun b8 => ?_) (fun b8 => ?_)
    ·replace hm := qC b8 hm
     refine q_sq ?_
     refine q_vn [] 0 ⟨[(2, vi 10)], []⟩ ?_
     obtain rfl := Option.some.inj hm
     refine q_rt ?_
     refine qY 10 ?_
     exact q_rm
    ·replace hm := qB b8 hm
     refine q_sq ?_
     obtain ⟨g9, hm⟩ := qL hm
     obtain ⟨v10, h11, hm⟩ := qD hm
     refine q_vu [qd 2 (Dir.none) (inb_of g9), qc 5 [33] 0 (qDq ((a1.getD x3.toNat default).Box) v10 h11)] 0 [13] [(28, vb v10)] [] [] ?_
     refine q_cn v10 (fun b12 => ?_) (fun b12 => ?_)
     ·replace hm := qC b12 hm
      refine q_sq ?_
      refine q_vn [] 0 ⟨[(2, vi 19)], []⟩ ?_
      obtain rfl := Option.some.inj hm
      refine q_rt ?_
      refine qY 19 ?_
      exact q_rm
     ·replace hm := qB b12 hm
      refine q_sq ?_
      obtain ⟨v13, h14, hm⟩ := qD hm
      refine q_vu [qd 2 (Dir.none) (inb_of g9), qc 5 [40] 0 (qId ((a1.getD x3.toNat default).Box) v13 h14)] 0 [28] [(35, vb (!v13))] [] [] ?_
      refine q_cn (!v13) (fun b15 => ?_) (fun b15 => ?_)
      ·replace hm := qC b15 hm
       refine q_sq ?_
       refine q_vn [] 0 ⟨[(2, vi 9)], []⟩ ?_
       obtain rfl := Option.some.inj hm
       refine q_rt ?_
       refine qY 9 ?_
       exact q_rm
      ·replace hm := qB b15 hm
       refine q_sk ?_
       refine q_vu [] 0 [3, 35] [(3, vi (w64 (x3 + 1)))] [] [] ?_
       exact q_hl (ME a1 (w64 (x3 + 1))) (ih (w64 (x3 + 1)) _ hm)
   ·obtain ⟨g5, hm⟩ := qL hm
    rcases Bool.eq_false_or_eq_true (decide (((a1.getD x3.toNat default).Kind) < 1)) with b6 | b6
    ·replace hm := qC b6 hm
     refine q_vu [qd 2 (Dir.none) (inb_of g5), qf 6 b6] 0 [10] [(13, vb true)] [] [] ?_
     exact q_J (true) hm
    ·replace hm := qB b6 hm
     refine q_vu [qd 2 (Dir.none) (inb_of g5), qf 6 b6, qd 9 (Dir.none) (inb_of g5)] 0 [10] [(13, vb (decide (((a1.getD x3.toNat default).Kind) > 6)))] [] [] ?_
     exact q_J (decide (((a1.getD x3.toNat default).Kind) > 6)) hm
  ·replace hm := qB b4 hm
   refine q_ex 0 ?_
   obtain rfl := Option.some.inj hm
   exact wJ () (by kernel_rfl) (by kernel_rfl)
theorem AP (a1 : List Defect) (r : Int) (hm : VC a1 = some r) : CtX Tryz.prog globs 36 0 0 [.one (tl qH default a1)] [] (OO r) (OP r) := by
 unfold VC at hm
 refine q_E Tryz.f36 43 fun E => ?_
 refine q_sq ?_
 refine q_vn [] 0 ⟨[(0, vc (tl qH default a1))], []⟩ ?_
 refine q_sq ?_
 refine q_sq ?_
 refine q_vu [] 0 [] [(6, vb (decide (((a1.length : Nat) : Int) > 64)))] [] [] ?_
 refine q_cn (decide (((a1.length : Nat) : Int) > 64)) (fun b2 => ?_) (fun b2 => ?_)
 ·replace hm := qC b2 hm
  refine q_sq ?_
  refine q_vn [] 0 ⟨[(2, vi 4)], []⟩ ?_
  obtain rfl := Option.some.inj hm
  refine q_rt ?_
  exact q_rm
 ·replace hm := qB b2 hm
  refine q_sk ?_
  refine q_sq ?_
  refine q_sq ?_
  refine q_vu [] 0 [6] [(3, vi 0)] [] [] ?_
  obtain ⟨u18, h17, hm⟩ := qD hm
  refine zM (nd Tryz.f36 116) 0 (by kernel_rfl) FUEL (fun o => qBv) (fun v st => RetQ Tryz.prog Tryz.f36 (OO v) (OP v) .ret st) u18 (q_hl (ME a1 0) (qFA E a1 FUEL 0 u18 h17)) ?_ ?_
  ·rintro v19 rfl st hr
   obtain rfl := Option.some.inj hm
   exact hr
  ·rintro o16 rfl
   replace hm : _ = some r := hm
   refine q_sq ?_
   refine q_vn [] 0 ⟨[(2, vi 0)], []⟩ ?_
   obtain rfl := Option.some.inj hm
   refine q_rt ?_
   exact q_rm
open Go.Proofs
set_option maxHeartbeats 4000000
set_option maxRecDepth 100000
def qKr (r : Bool) : V := vb r
def qKH (r : Bool) : List (Nat × (Nat × O)) := []
def qBf (x3 : Bool) : St :=
 ⟨[(2, vb x3)], []⟩
theorem qI8 (a1 : Int) (r : Bool) (hm : LF a1 = some r) : CtX Tryz.prog globs 113 0 0 [.one (.val (.int .u8 a1))] [] (qKr r) (qKH r) := by
 unfold LF at hm
 refine q_E Tryz.f113 9 fun E => ?_
 refine q_sq ?_
 refine q_vn [] 0 ⟨[(0, vc (.val (.int .u8 a1)))], []⟩ ?_
 refine q_jn (ι := Bool) (fun p => qBf p) (fun p => NK p = some r) ?_ ?_
 ·rintro x3 hm
  show H _ (qBf x3) _ _
  obtain rfl := Option.some.inj hm
  refine q_rt ?_
  exact q_rm
 ·rcases Bool.eq_false_or_eq_true (decide (a1 ≥ 48)) with b2 | b2
  ·replace hm := qC b2 hm
   refine q_vn [qf 2 b2] 0 ⟨[(2, vb (decide (a1 ≤ 57)))], []⟩ ?_
   exact q_J (decide (a1 ≤ 57)) hm
  ·replace hm := qB b2 hm
   refine q_vn [qf 2 b2] 0 ⟨[(2, vb false)], []⟩ ?_
   exact q_J (false) hm
def AL (r : Bool) : V := vb r
def AG (r : Bool) : List (Nat × (Nat × O)) := []
def qAc (a1 : ByteArray) (x5 : Int) (x16 : Bool) : St :=
 ⟨[(0, vc (cs a1)), (3, vi x5), (47, vb x16)], []⟩
def CZ (a1 : ByteArray) (x5 : Int) (x9 : Bool) : St :=
 ⟨[(0, vc (cs a1)), (3, vi x5), (4, vb x9)], []⟩
def NY (a1 : ByteArray) (x5 : Int) : St :=
 ⟨[(0, vc (cs a1)), (3, vi x5)], []⟩
def CX : St :=
 ⟨[], []⟩
def qAi (a1 : ByteArray) (x3 : Bool) : St :=
 ⟨[(0, vc (cs a1)), (12, vb x3)], []⟩
theorem qEk (E : Env 0) (a1 : ByteArray) : ∀ (n : Nat) (x5 : Int) (res : Bool ⊕ Unit), wO a1 n x5 = some res → HL (kx E 48 0) (nd Tryz.f72 116) (wI 0 (fun o => CX) (fun v st => RetQ Tryz.prog Tryz.f72 (AL v) (AG v) .ret st) res) n (NY a1 x5) := by
 intro n
 induction n with
 | zero =>
  intro x5 res hm
  cases hm
 | succ n ih =>
  intro x5 res hm
  refine qR ?_
  refine q_sq ?_
  refine q_sq ?_
  refine q_vu [] 0 [] [(16, vb (decide (x5 < ((a1.size : Nat) : Int))))] [] [] ?_
  refine q_cn (decide (x5 < ((a1.size : Nat) : Int))) (fun b6 => ?_) (fun b6 => ?_)
  ·replace hm := qC b6 hm
   refine q_sk ?_
   refine q_sq ?_
   refine q_bk 1 ?_
   refine q_jn (ι := Bool) (fun p => CZ a1 x5 p) (fun p => GA a1 x5 (wO a1 n) p = some res) ?_ ?_
   ·rintro x9 hm
    show H _ (CZ a1 x5 x9) _ _
    refine q_jn (ι := Bool) (fun p => qAc a1 x5 p) (fun p => WY x5 (wO a1 n) p = some res) ?_ ?_
    ·rintro x16 hm
     show H _ (qAc a1 x5 x16) _ _
     refine q_cn x16 (fun b17 => ?_) (fun b17 => ?_)
     ·replace hm := qC b17 hm
      refine q_sq ?_
      refine q_vn [] 0 ⟨[(2, vb false)], []⟩ ?_
      obtain rfl := Option.some.inj hm
      refine q_rt ?_
      refine qY false ?_
      exact q_rm
     ·replace hm := qB b17 hm
      refine q_sk ?_
      refine q_vu [] 0 [3, 47] [(3, vi (w64 (x5 + 1)))] [] [] ?_
      exact q_hl (NY a1 (w64 (x5 + 1))) (ih (w64 (x5 + 1)) _ hm)
    ·rcases Bool.eq_false_or_eq_true (!x9) with b10 | b10
     ·replace hm := qC b10 hm
      rcases Bool.eq_false_or_eq_true (x5 == 0) with b11 | b11
      ·replace hm := qC b11 hm
       refine q_vu [qf 2 b10, qf 5 b11] 0 [4] [(47, vb true)] [] [] ?_
       exact q_J (true) hm
      ·replace hm := qB b11 hm
       obtain ⟨g12, hm⟩ := qL hm
       rcases Bool.eq_false_or_eq_true ((strAt a1 x5.toNat) != 95) with b13 | b13
       ·replace hm := qC b13 hm
        obtain ⟨v14, h15, hm⟩ := qD hm
        refine q_vu [qf 2 b10, qf 5 b11, qd 8 (Dir.none) (inb_of g12), qf 10 b13, qd 13 (Dir.none) (inb_of g12), qk 14 [39, 42] 0 ⟨[(39, vb true), (42, vc (.val (.int .u8 (strAt a1 x5.toNat))))], []⟩ (qI8 (strAt a1 x5.toNat) v14 h15)] 0 [4] [(47, vb (!v14))] [] [] ?_
        exact q_J (!v14) hm
       ·replace hm := qB b13 hm
        refine q_vu [qf 2 b10, qf 5 b11, qd 8 (Dir.none) (inb_of g12), qf 10 b13] 0 [4] [(47, vb false)] [] [] ?_
        exact q_J (false) hm
     ·replace hm := qB b10 hm
      refine q_vu [qf 2 b10] 0 [4] [(47, vb false)] [] [] ?_
      exact q_J (false) hm
   ·obtain ⟨g7, hm⟩ := qL hm
    rcases Bool.eq_false_or_eq_true (decide ((strAt a1 x5.toNat) ≥ 97)) with b8 | b8
    ·replace hm := qC b8 hm
     refine q_vu [qd 2 (Dir.none) (inb_of g7), qf 4 b8, qd 7 (Dir.none) (inb_of g7)] 0 [16] [(4, vb (decide ((strAt a1 x5.toNat) ≤ 122)))] [] [] ?_
     exact q_J (decide ((strAt a1 x5.toNat) ≤ 122)) hm
    ·replace hm := qB b8 hm
     refine q_vu [qd 2 (Dir.none) (inb_of g7), qf 4 b8] 0 [16] [(4, vb false)] [] [] ?_
     exact q_J (false) hm
  ·replace hm := qB b6 hm
   refine q_ex 0 ?_
   obtain rfl := Option.some.inj hm
   exact wJ () (by kernel_rfl) (by kernel_rfl)
theorem qHI (a1 : ByteArray) (r : Bool) (hm : DO a1 = some r) : CtX Tryz.prog globs 72 0 0 [.one (cs a1)] [] (AL r) (AG r) := by
 unfold DO at hm
 refine q_E Tryz.f72 48 fun E => ?_
 refine q_sq ?_
 refine q_vn [] 0 ⟨[(0, vc (cs a1))], []⟩ ?_
 refine q_sq ?_
 refine q_jn (ι := Bool) (fun p => qAi a1 p) (fun p => GE a1 p = some r) ?_ ?_
 ·rintro x3 hm
  show H _ (qAi a1 x3) _ _
  refine q_cn x3 (fun b4 => ?_) (fun b4 => ?_)
  ·replace hm := qC b4 hm
   refine q_sq ?_
   refine q_vn [] 0 ⟨[(2, vb false)], []⟩ ?_
   obtain rfl := Option.some.inj hm
   refine q_rt ?_
   exact q_rm
  ·replace hm := qB b4 hm
   refine q_sk ?_
   refine q_sq ?_
   refine q_sq ?_
   refine q_vu [] 0 [12] [(3, vi 0)] [] [] ?_
   obtain ⟨u20, h19, hm⟩ := qD hm
   refine zM (nd Tryz.f72 116) 0 (by kernel_rfl) FUEL (fun o => CX) (fun v st => RetQ Tryz.prog Tryz.f72 (AL v) (AG v) .ret st) u20 (q_hl (NY a1 0) (qEk E a1 FUEL 0 u20 h19)) ?_ ?_
   ·rintro v21 rfl st hr
    obtain rfl := Option.some.inj hm
    exact hr
   ·rintro o18 rfl
    replace hm : _ = some r := hm
    refine q_sq ?_
    refine q_vn [] 0 ⟨[(2, vb true)], []⟩ ?_
    obtain rfl := Option.some.inj hm
    refine q_rt ?_
    exact q_rm
 ·rcases Bool.eq_false_or_eq_true (decide (((a1.size : Nat) : Int) < 1)) with b2 | b2
  ·replace hm := qC b2 hm
   refine q_vu [qf 3 b2] 0 [] [(12, vb true)] [] [] ?_
   exact q_J (true) hm
  ·replace hm := qB b2 hm
   refine q_vu [qf 3 b2] 0 [] [(12, vb (decide (((a1.size : Nat) : Int) > 16)))] [] [] ?_
   exact q_J (decide (((a1.size : Nat) : Int) > 16)) hm
set_option maxRecDepth 100000
def QU (r : Int) : V := vi r
def QQ (r : Int) : List (Nat × (Nat × O)) := []
def NM (a1 : Product) (x5 : Int) (x14 : Bool) : St :=
 ⟨[(1, vp 0 0), (3, vi x5), (56, vb x14)], [(0, bx 62 (qA a1))]⟩
def NO (a1 : Product) (x5 : Int) (x9 : Bool) : St :=
 ⟨[(1, vp 0 0), (3, vi x5), (40, vb x9)], [(0, bx 62 (qA a1))]⟩
def XK (a1 : Product) (x5 : Int) : St :=
 ⟨[(1, vp 0 0), (3, vi x5)], [(0, bx 62 (qA a1))]⟩
def NV (a1 : Product) : St :=
 ⟨[(1, vp 0 0)], [(0, bx 62 (qA a1))]⟩
def NN (a1 : Product) (x20 : Int) (x24 : Bool) : St :=
 ⟨[(1, vp 0 0), (4, vi x20), (77, vb x24)], [(0, bx 62 (qA a1))]⟩
def XJ (a1 : Product) (x20 : Int) : St :=
 ⟨[(1, vp 0 0), (4, vi x20)], [(0, bx 62 (qA a1))]⟩
def NT : St :=
 ⟨[], []⟩
theorem qAU (E : Env 0) (a1 : Product) : ∀ (n : Nat) (x5 : Int) (res : Int ⊕ Unit), zO a1 n x5 = some res → HL (kx E 78 0) (nd Tryz.f74 500) (wI 0 (fun o => NV a1) (fun v st => RetQ Tryz.prog Tryz.f74 (QU v) (QQ v) .ret st) res) n (XK a1 x5) := by
 intro n
 induction n with
 | zero =>
  intro x5 res hm
  cases hm
 | succ n ih =>
  intro x5 res hm
  refine qR ?_
  refine q_sq ?_
  refine q_sq ?_
  refine q_vu [] 1 [] [(24, vb (decide (x5 < ((a1.Lengths.length : Nat) : Int))))] [] [] ?_
  refine q_cn (decide (x5 < ((a1.Lengths.length : Nat) : Int))) (fun b6 => ?_) (fun b6 => ?_)
  ·replace hm := qC b6 hm
   refine q_sk ?_
   refine q_sq ?_
   refine q_bk 1 ?_
   refine q_sq ?_
   refine q_jn (ι := Bool) (fun p => NO a1 x5 p) (fun p => WT a1 x5 (zO a1 n) p = some res) ?_ ?_
   ·rintro x9 hm
    show H _ (NO a1 x5 x9) _ _
    refine q_cn x9 (fun b10 => ?_) (fun b10 => ?_)
    ·replace hm := qC b10 hm
     refine q_sq ?_
     refine q_vn [] 1 ⟨[(2, vi 9)], []⟩ ?_
     obtain rfl := Option.some.inj hm
     refine q_rt ?_
     refine qY 9 ?_
     exact q_rm
    ·replace hm := qB b10 hm
     refine q_sk ?_
     refine q_jn (ι := Bool) (fun p => NM a1 x5 p) (fun p => WX x5 (zO a1 n) p = some res) ?_ ?_
     ·rintro x14 hm
      show H _ (NM a1 x5 x14) _ _
      refine q_cn x14 (fun b15 => ?_) (fun b15 => ?_)
      ·replace hm := qC b15 hm
       refine q_sq ?_
       refine q_vn [] 1 ⟨[(2, vi 11)], []⟩ ?_
       obtain rfl := Option.some.inj hm
       refine q_rt ?_
       refine qY 11 ?_
       exact q_rm
      ·replace hm := qB b15 hm
       refine q_sk ?_
       refine q_vu [] 1 [3, 56] [(3, vi (w64 (x5 + 1)))] [] [] ?_
       exact q_hl (XK a1 (w64 (x5 + 1))) (ih (w64 (x5 + 1)) _ hm)
     ·rcases Bool.eq_false_or_eq_true (decide (x5 > 0)) with b11 | b11
      ·replace hm := qC b11 hm
       obtain ⟨g12, hm⟩ := qL hm
       obtain ⟨g13, hm⟩ := qL hm
       refine q_du [qf 2 b11, qd 6 (Dir.none) (inb_of g12), qd 12 (Dir.none) (inb_of g13)] [0, 1, 3, 7, 15, 7, 63, 127, 7, 263, 7, 1031, 3847, 7943, 16383, 32767] 1 [40] [(56, vb (decide ((a1.Lengths.getD x5.toNat default) ≤ (a1.Lengths.getD (w64 (x5 - 1)).toNat default))))] [] [] ?_
       exact q_J (decide ((a1.Lengths.getD x5.toNat default) ≤ (a1.Lengths.getD (w64 (x5 - 1)).toNat default))) hm
      ·replace hm := qB b11 hm
       refine q_du [qf 2 b11] [0, 1, 3, 7, 15, 7, 63, 127, 7, 263, 7, 1031, 3847, 7943, 16383, 32767] 1 [40] [(56, vb false)] [] [] ?_
       exact q_J (false) hm
   ·obtain ⟨g7, hm⟩ := qL hm
    rcases Bool.eq_false_or_eq_true (decide ((a1.Lengths.getD x5.toNat default) < 100)) with b8 | b8
    ·replace hm := qC b8 hm
     refine q_vu [qd 3 (Dir.none) (inb_of g7), qf 6 b8] 1 [24] [(40, vb true)] [] [] ?_
     exact q_J (true) hm
    ·replace hm := qB b8 hm
     refine q_vu [qd 3 (Dir.none) (inb_of g7), qf 6 b8, qd 10 (Dir.none) (inb_of g7)] 1 [24] [(40, vb (decide ((a1.Lengths.getD x5.toNat default) > 20000)))] [] [] ?_
     exact q_J (decide ((a1.Lengths.getD x5.toNat default) > 20000)) hm
  ·replace hm := qB b6 hm
   refine q_ex 0 ?_
   obtain rfl := Option.some.inj hm
   exact wJ () (by kernel_rfl) (by kernel_rfl)
theorem qBF (E : Env 0) (a1 : Product) : ∀ (n : Nat) (x20 : Int) (res : Int ⊕ Unit), zS a1 n x20 = some res → HL (kx E 78 0) (nd Tryz.f74 1012) (wI 2 (fun o => NT) (fun v st => RetQ Tryz.prog Tryz.f74 (QU v) (QQ v) .ret st) res) n (XJ a1 x20) := by
 intro n
 induction n with
 | zero =>
  intro x20 res hm
  cases hm
 | succ n ih =>
  intro x20 res hm
  refine qR ?_
  refine q_sq ?_
  refine q_sq ?_
  refine q_vu [] 1 [] [(61, vb (decide (x20 < ((a1.Prices.length : Nat) : Int))))] [] [] ?_
  refine q_cn (decide (x20 < ((a1.Prices.length : Nat) : Int))) (fun b21 => ?_) (fun b21 => ?_)
  ·replace hm := qC b21 hm
   refine q_sk ?_
   refine q_sq ?_
   refine q_bk 3 ?_
   refine q_jn (ι := Bool) (fun p => NN a1 x20 p) (fun p => WV x20 (zS a1 n) p = some res) ?_ ?_
   ·rintro x24 hm
    show H _ (NN a1 x20 x24) _ _
    refine q_cn x24 (fun b25 => ?_) (fun b25 => ?_)
    ·replace hm := qC b25 hm
     refine q_sq ?_
     refine q_vn [] 1 ⟨[(2, vi 9)], []⟩ ?_
     obtain rfl := Option.some.inj hm
     refine q_rt ?_
     refine qY 9 ?_
     exact q_rm
    ·replace hm := qB b25 hm
     refine q_sk ?_
     refine q_vu [] 1 [4, 77] [(4, vi (w64 (x20 + 1)))] [] [] ?_
     exact q_hl (XJ a1 (w64 (x20 + 1))) (ih (w64 (x20 + 1)) _ hm)
   ·obtain ⟨g22, hm⟩ := qL hm
    rcases Bool.eq_false_or_eq_true (decide ((a1.Prices.getD x20.toNat default) < 0)) with b23 | b23
    ·replace hm := qC b23 hm
     refine q_vu [qd 3 (Dir.none) (inb_of g22), qf 6 b23] 1 [61] [(77, vb true)] [] [] ?_
     exact q_J (true) hm
    ·replace hm := qB b23 hm
     refine q_vu [qd 3 (Dir.none) (inb_of g22), qf 6 b23, qd 10 (Dir.none) (inb_of g22)] 1 [61] [(77, vb (decide ((a1.Prices.getD x20.toNat default) > 1000000)))] [] [] ?_
     exact q_J (decide ((a1.Prices.getD x20.toNat default) > 1000000)) hm
  ·replace hm := qB b21 hm
   refine q_ex 2 ?_
   obtain rfl := Option.some.inj hm
   exact wJ () (by kernel_rfl) (by kernel_rfl)
theorem qCZ (a1 : Product) (r : Int) (hm : WN a1 = some r) : CtX Tryz.prog globs 74 0 0 [.agg (qA a1)] [] (QU r) (QQ r) := by
 unfold WN at hm
 refine q_E Tryz.f74 78 fun E => ?_
 refine q_sq ?_
 refine q_vn [] 0 ⟨[(1, vp 0 0)], [(0, bx 62 (qA a1))]⟩ ?_
 refine q_sq ?_
 refine q_sq ?_
 refine q_vu [] 1 [] [(8, vb (((a1.Lengths.length : Nat) : Int) == 0))] [] [] ?_
 refine q_cn (((a1.Lengths.length : Nat) : Int) == 0) (fun b2 => ?_) (fun b2 => ?_)
 ·replace hm := qC b2 hm
  refine q_sq ?_
  refine q_vn [] 1 ⟨[(2, vi 3)], []⟩ ?_
  obtain rfl := Option.some.inj hm
  refine q_rt ?_
  exact q_rm
 ·replace hm := qB b2 hm
  refine q_sk ?_
  refine q_sq ?_
  refine q_sq ?_
  refine q_vu [] 1 [8] [(12, vb (decide (((a1.Lengths.length : Nat) : Int) > 8)))] [] [] ?_
  refine q_cn (decide (((a1.Lengths.length : Nat) : Int) > 8)) (fun b3 => ?_) (fun b3 => ?_)
  ·replace hm := qC b3 hm
   refine q_sq ?_
   refine q_vn [] 1 ⟨[(2, vi 4)], []⟩ ?_
   obtain rfl := Option.some.inj hm
   refine q_rt ?_
   exact q_rm
  ·replace hm := qB b3 hm
   refine q_sk ?_
   refine q_sq ?_
   refine q_sq ?_
   refine q_vu [] 1 [12] [(19, vb (((a1.Prices.length : Nat) : Int) != ((a1.Lengths.length : Nat) : Int)))] [] [] ?_
   refine q_cn (((a1.Prices.length : Nat) : Int) != ((a1.Lengths.length : Nat) : Int)) (fun b4 => ?_) (fun b4 => ?_)
   ·replace hm := qC b4 hm
    refine q_sq ?_
    refine q_vn [] 1 ⟨[(2, vi 19)], []⟩ ?_
    obtain rfl := Option.some.inj hm
    refine q_rt ?_
    exact q_rm
   ·replace hm := qB b4 hm
    refine q_sk ?_
    refine q_sq ?_
    refine q_sq ?_
    refine q_vu [] 1 [19] [(3, vi 0)] [] [] ?_
    obtain ⟨u18, h17, hm⟩ := qD hm
    refine zM (nd Tryz.f74 500) 0 (by kernel_rfl) FUEL (fun o => NV a1) (fun v st => RetQ Tryz.prog Tryz.f74 (QU v) (QQ v) .ret st) u18 (q_hl (XK a1 0) (qAU E a1 FUEL 0 u18 h17)) ?_ ?_
    ·rintro v19 rfl st hr
     obtain rfl := Option.some.inj hm
     exact hr
    ·rintro o16 rfl
     replace hm : _ = some r := hm
     refine q_sq ?_
     refine q_sq ?_
     refine q_vu [] 1 [] [(4, vi 0)] [] [] ?_
     obtain ⟨u28, h27, hm⟩ := qD hm
     refine zM (nd Tryz.f74 1012) 2 (by kernel_rfl) FUEL (fun o => NT) (fun v st => RetQ Tryz.prog Tryz.f74 (QU v) (QQ v) .ret st) u28 (q_hl (XJ a1 0) (qBF E a1 FUEL 0 u28 h27)) ?_ ?_
     ·rintro v29 rfl st hr
      obtain rfl := Option.some.inj hm
      exact hr
     ·rintro o26 rfl
      replace hm : _ = some r := hm
      refine q_sq ?_
      refine q_vn [] 1 ⟨[(2, vi 0)], []⟩ ?_
      obtain rfl := Option.some.inj hm
      refine q_rt ?_
      exact q_rm
open Go.Proofs
set_option maxHeartbeats 4000000
set_option maxRecDepth 100000
def XN (r : Int) : V := vi r
def ZE (r : Int) : List (Nat × (Nat × O)) := []
theorem qKy (r : Int) : KW (ZE r) := by
 intro i k o h
 unfold ZE at h
 cases h
def MF (a1 : List Product) (x3 : Int) (x9 : Int) : St :=
 ⟨[(0, vc (tl qA default a1)), (3, vi x3), (4, vp 0 0), (5, vi x9)], [(0, bx 62 [cs ((a1.getD x3.toNat default).Name), ci ((a1.getD x3.toNat default).Thick), ci ((a1.getD x3.toNat default).Width), ci ((a1.getD x3.toNat default).Allow), ci ((a1.getD x3.toNat default).Wane), tl qN default ((a1.getD x3.toNat default).Lengths), tl qN default ((a1.getD x3.toNat default).Prices)])]⟩
def qBj (a1 : List Product) (x3 : Int) : St :=
 ⟨[(0, vc (tl qA default a1)), (3, vi x3), (4, vp 0 0)], [(0, bx 62 [cs ((a1.getD x3.toNat default).Name), ci ((a1.getD x3.toNat default).Thick), ci ((a1.getD x3.toNat default).Width), ci ((a1.getD x3.toNat default).Allow), ci ((a1.getD x3.toNat default).Wane), tl qN default ((a1.getD x3.toNat default).Lengths), tl qN default ((a1.getD x3.toNat default).Prices)])]⟩
def qBh (a1 : List Product) (x3 : Int) (x24 : Bool) : St :=
 ⟨[(0, vc (tl qA default a1)), (3, vi x3), (4, vp 0 0), (78, vb x24)], [(0, bx 62 [cs ((a1.getD x3.toNat default).Name), ci ((a1.getD x3.toNat default).Thick), ci ((a1.getD x3.toNat default).Width), ci ((a1.getD x3.toNat default).Allow), ci ((a1.getD x3.toNat default).Wane), tl qN default ((a1.getD x3.toNat default).Lengths), tl qN default ((a1.getD x3.toNat default).Prices)])]⟩
def MO (a1 : List Product) (x3 : Int) : St :=
 ⟨[(0, vc (tl qA default a1)), (3, vi x3)], []⟩
def qBm : St :=
 ⟨[], []⟩
theorem qFC (E : Env 0) (a1 : List Product) (x3 : Int) : ∀ (n : Nat) (x9 : Int) (res : Int ⊕ Unit), ZP a1 x3 n x9 = some res → HL (kx E 91 0) (nd Tryz.f37 59700) (wI 2 (fun o => qBj a1 x3) (fun v st => RetQ Tryz.prog Tryz.f37 (XN v) (ZE v) .ret st) res) n (MF a1 x3 x9) := by
 intro n
 induction n with
 | zero =>
  intro x9 res hm
  cases hm
 | succ n ih =>
  intro x9 res hm
  refine qR ?_
  refine q_sq ?_
  refine q_sq ?_
  refine q_vu [] 1 [] [(28, vb (decide (x9 < x3)))] [] [] ?_
  refine q_cn (decide (x9 < x3)) (fun b10 => ?_) (fun b10 => ?_)
  ·replace hm := qC b10 hm
   refine q_sk ?_
   refine q_sq ?_
   refine q_bk 3 ?_
   refine q_sq ?_
   obtain ⟨g11, hm⟩ := qL hm
   refine q_du [qd 2 (Dir.none) (inb_of g11)] [0, 0, 3, 7, 15, 0, 32, 127] 1 [28] [(38, vb (strEq ((a1.getD x9.toNat default).Name) ((a1.getD x3.toNat default).Name)))] [] [] ?_
   refine q_cn (strEq ((a1.getD x9.toNat default).Name) ((a1.getD x3.toNat default).Name)) (fun b12 => ?_) (fun b12 => ?_)
   ·replace hm := qC b12 hm
    refine q_sq ?_
    refine q_vn [] 1 ⟨[(2, vi 7)], []⟩ ?_
    obtain rfl := Option.some.inj hm
    refine q_rt ?_
    refine qY 7 ?_
    exact q_rm
   ·replace hm := qB b12 hm
    refine q_sk ?_
    refine q_vu [] 1 [5, 38] [(5, vi (w64 (x9 + 1)))] [] [] ?_
    exact q_hl (MF a1 x3 (w64 (x9 + 1))) (ih (w64 (x9 + 1)) _ hm)
  ·replace hm := qB b10 hm
   refine q_ex 2 ?_
   obtain rfl := Option.some.inj hm
   exact wJ () (by kernel_rfl) (by kernel_rfl)
theorem qF0 (E : Env 0) (a1 : List Product) : ∀ (n : Nat) (x3 : Int) (res : Int ⊕ Unit), zQ a1 n x3 = some res → HL (kx E 91 0) (nd Tryz.f37 116) (wI 0 (fun o => qBm) (fun v st => RetQ Tryz.prog Tryz.f37 (XN v) (ZE v) .ret st) res) n (MO a1 x3) := by
 intro n
 induction n with
 | zero =>
  intro x3 res hm
  cases hm
 | succ n ih =>
  intro x3 res hm
  refine qR ?_
  refine q_sq ?_
  refine q_sq ?_
  refine q_vu [] 0 [] [(15, vb (decide (x3 < ((a1.length : Nat) : Int))))] [] [] ?_
  refine q_cn (decide (x3 < ((a1.length : Nat) : Int))) (fun b4 => ?_) (fun b4 => ?_)
  ·replace hm := qC b4 hm
   refine q_sk ?_
   refine q_sq ?_
   refine q_bk 1 ?_
   refine q_sq ?_
   obtain ⟨g5, hm⟩ := qL hm
   refine q_vu [qd 2 (Dir.none) (inb_of g5)] 0 [15] [(4, vp 0 0)] [] [(0, bx 62 [cs ((a1.getD x3.toNat default).Name), ci ((a1.getD x3.toNat default).Thick), ci ((a1.getD x3.toNat default).Width), ci ((a1.getD x3.toNat default).Allow), ci ((a1.getD x3.toNat default).Wane), tl qN default ((a1.getD x3.toNat default).Lengths), tl qN default ((a1.getD x3.toNat default).Prices)])] ?_
   refine q_sq ?_
   refine q_sq ?_
   obtain ⟨v6, h7, hm⟩ := qD hm
   refine q_vu [qc 2 [23] 1 (qHI ((a1.getD x3.toNat default).Name) v6 h7)] 1 [] [(25, vb (!v6))] [] [] ?_
   refine q_cn (!v6) (fun b8 => ?_) (fun b8 => ?_)
   ·replace hm := qC b8 hm
    refine q_sq ?_
    refine q_vn [] 1 ⟨[(2, vi 6)], []⟩ ?_
    obtain rfl := Option.some.inj hm
    refine q_rt ?_
    refine qY 6 ?_
    exact q_rm
   ·replace hm := qB b8 hm
    refine q_sk ?_
    refine q_sq ?_
    refine q_sq ?_
    refine q_vu [] 1 [25] [(5, vi 0)] [] [] ?_
    obtain ⟨u15, h14, hm⟩ := qD hm
    refine zM (nd Tryz.f37 59700) 2 (by kernel_rfl) FUEL (fun o => qBj a1 x3) (fun v st => RetQ Tryz.prog Tryz.f37 (XN v) (ZE v) .ret st) u15 (q_hl (MF a1 x3 0) (qFC E a1 x3 FUEL 0 u15 h14)) ?_ ?_
    ·rintro v16 rfl st hr
     obtain rfl := Option.some.inj hm
     exact qY v16 hr
    ·rintro o13 rfl
     replace hm : _ = some res := hm
     refine q_sq ?_
     refine q_jn (ι := Bool) (fun p => qBh a1 x3 p) (fun p => jF a1 x3 (zQ a1 n) p = some res) ?_ ?_
     ·rintro x24 hm
      show H _ (qBh a1 x3 x24) _ _
      refine q_cn x24 (fun b25 => ?_) (fun b25 => ?_)
      ·replace hm := qC b25 hm
       refine q_sq ?_
       refine q_vn [] 1 ⟨[(2, vi 9)], []⟩ ?_
       obtain rfl := Option.some.inj hm
       refine q_rt ?_
       refine qY 9 ?_
       exact q_rm
      ·replace hm := qB b25 hm
       refine q_sk ?_
       refine q_sq ?_
       refine q_sq ?_
       obtain ⟨v26, h27, hm⟩ := qD hm
       refine q_vu [qc 1 [80] 1 (NA (a1.getD x3.toNat default) v26 h27)] 1 [78] [(7, vi v26.2)] [] [] ?_
       refine q_sq ?_
       refine q_vu [] 1 [7] [(85, vb (decide (v26.2 > 600)))] [] [] ?_
       refine q_cn (decide (v26.2 > 600)) (fun b28 => ?_) (fun b28 => ?_)
       ·replace hm := qC b28 hm
        refine q_sq ?_
        refine q_vn [] 1 ⟨[(2, vi 9)], []⟩ ?_
        obtain rfl := Option.some.inj hm
        refine q_rt ?_
        refine qY 9 ?_
        exact q_rm
       ·replace hm := qB b28 hm
        refine q_sk ?_
        refine q_sq ?_
        obtain ⟨v29, h30, hm⟩ := qD hm
        refine q_vu [qc 1 [86] 1 (qCZ (a1.getD x3.toNat default) v29 h30)] 1 [4, 85] [(8, vi v29)] [0] [] ?_
        refine q_sq ?_
        refine q_vu [] 1 [] [(89, vb (v29 != 0))] [] [] ?_
        refine q_cn (v29 != 0) (fun b31 => ?_) (fun b31 => ?_)
        ·replace hm := qC b31 hm
         refine q_sq ?_
         refine q_vn [] 1 ⟨[(2, vi v29)], []⟩ ?_
         obtain rfl := Option.some.inj hm
         refine q_rt ?_
         refine qY v29 ?_
         exact q_rm
        ·replace hm := qB b31 hm
         refine q_sk ?_
         refine q_vu [] 1 [3, 8, 89] [(3, vi (w64 (x3 + 1)))] [] [] ?_
         exact q_hl (MO a1 (w64 (x3 + 1))) (ih (w64 (x3 + 1)) _ hm)
     ·rcases Bool.eq_false_or_eq_true (decide (((a1.getD x3.toNat default).Thick) < 5)) with b17 | b17
      ·replace hm := qC b17 hm
       refine q_vu [qf 3 b17] 1 [] [(78, vb true)] [] [] ?_
       exact q_J (true) hm
      ·replace hm := qB b17 hm
       rcases Bool.eq_false_or_eq_true (decide (((a1.getD x3.toNat default).Thick) > 300)) with b18 | b18
       ·replace hm := qC b18 hm
        refine q_vu [qf 3 b17, qf 8 b18] 1 [] [(78, vb true)] [] [] ?_
        exact q_J (true) hm
       ·replace hm := qB b18 hm
        rcases Bool.eq_false_or_eq_true (decide (((a1.getD x3.toNat default).Width) < ((a1.getD x3.toNat default).Thick))) with b19 | b19
        ·replace hm := qC b19 hm
         refine q_vu [qf 3 b17, qf 8 b18, qf 15 b19] 1 [] [(78, vb true)] [] [] ?_
         exact q_J (true) hm
        ·replace hm := qB b19 hm
         rcases Bool.eq_false_or_eq_true (decide (((a1.getD x3.toNat default).Width) > 600)) with b20 | b20
         ·replace hm := qC b20 hm
          refine q_vu [qf 3 b17, qf 8 b18, qf 15 b19, qf 20 b20] 1 [] [(78, vb true)] [] [] ?_
          exact q_J (true) hm
         ·replace hm := qB b20 hm
          rcases Bool.eq_false_or_eq_true (decide (((a1.getD x3.toNat default).Allow) < 0)) with b21 | b21
          ·replace hm := qC b21 hm
           refine q_vu [qf 3 b17, qf 8 b18, qf 15 b19, qf 20 b20, qf 25 b21] 1 [] [(78, vb true)] [] [] ?_
           exact q_J (true) hm
          ·replace hm := qB b21 hm
           rcases Bool.eq_false_or_eq_true (decide (((a1.getD x3.toNat default).Allow) > 200)) with b22 | b22
           ·replace hm := qC b22 hm
            refine q_vu [qf 3 b17, qf 8 b18, qf 15 b19, qf 20 b20, qf 25 b21, qf 30 b22] 1 [] [(78, vb true)] [] [] ?_
            exact q_J (true) hm
           ·replace hm := qB b22 hm
            rcases Bool.eq_false_or_eq_true (decide (((a1.getD x3.toNat default).Wane) < 0)) with b23 | b23
            ·replace hm := qC b23 hm
             refine q_vu [qf 3 b17, qf 8 b18, qf 15 b19, qf 20 b20, qf 25 b21, qf 30 b22, qf 35 b23] 1 [] [(78, vb true)] [] [] ?_
             exact q_J (true) hm
            ·replace hm := qB b23 hm
             refine q_vu [qf 3 b17, qf 8 b18, qf 15 b19, qf 20 b20, qf 25 b21, qf 30 b22, qf 35 b23] 1 [] [(78, vb (decide (((a1.getD x3.toNat default).Wane) > 1000)))] [] [] ?_
             exact q_J (decide (((a1.getD x3.toNat default).Wane) > 1000)) hm
  ·replace hm := qB b4 hm
   refine q_ex 0 ?_
   obtain rfl := Option.some.inj hm
   exact wJ () (by kernel_rfl) (by kernel_rfl)
theorem qDe (a1 : List Product) (r : Int) (hm : VF a1 = some r) : CtX Tryz.prog globs 37 0 0 [.one (tl qA default a1)] [] (XN r) (ZE r) := by
 unfold VF at hm
 refine q_E Tryz.f37 91 fun E => ?_
 refine q_sq ?_
 refine q_vn [] 0 ⟨[(0, vc (tl qA default a1))], []⟩ ?_
 refine q_sq ?_
 refine q_sq ?_
 refine q_vu [] 0 [] [(11, vb (decide (((a1.length : Nat) : Int) > 16)))] [] [] ?_
 refine q_cn (decide (((a1.length : Nat) : Int) > 16)) (fun b2 => ?_) (fun b2 => ?_)
 ·replace hm := qC b2 hm
  refine q_sq ?_
  refine q_vn [] 0 ⟨[(2, vi 4)], []⟩ ?_
  obtain rfl := Option.some.inj hm
  refine q_rt ?_
  exact q_rm
 ·replace hm := qB b2 hm
  refine q_sk ?_
  refine q_sq ?_
  refine q_sq ?_
  refine q_vu [] 0 [11] [(3, vi 0)] [] [] ?_
  obtain ⟨u34, h33, hm⟩ := qD hm
  refine zM (nd Tryz.f37 116) 0 (by kernel_rfl) FUEL (fun o => qBm) (fun v st => RetQ Tryz.prog Tryz.f37 (XN v) (ZE v) .ret st) u34 (q_hl (MO a1 0) (qF0 E a1 FUEL 0 u34 h33)) ?_ ?_
  ·rintro v35 rfl st hr
   obtain rfl := Option.some.inj hm
   exact hr
  ·rintro o32 rfl
   replace hm : _ = some r := hm
   refine q_sq ?_
   refine q_vn [] 0 ⟨[(2, vi 0)], []⟩ ?_
   obtain rfl := Option.some.inj hm
   refine q_rt ?_
   exact q_rm
def qKS (r : Bool) : V := vb r
def qKY (r : Bool) : List (Nat × (Nat × O)) := []
def qBM (x12 : Bool) : St :=
 ⟨[(6, vb x12)], []⟩
theorem qIX (a1 : List Slice) (a2 : List Defect) (a3 : Product) (r : Bool) (hm : ID a1 a2 a3 = some r) : CtX Tryz.prog globs 42 0 0 [.one (tl qI default a1), .one (tl qH default a2), .agg (qA a3)] [] (qKS r) (qKY r) := by
 unfold ID at hm
 refine q_E Tryz.f42 21 fun E => ?_
 refine q_sq ?_
 refine q_vn [] 0 ⟨[(0, vc (tl qI default a1)), (1, vc (tl qH default a2)), (5, vp 0 0)], [(0, bx 62 (qA a3))]⟩ ?_
 refine q_jn (ι := Bool) (fun p => qBM p) (fun p => RU p = some r) ?_ ?_
 ·rintro x12 hm
  show H _ (qBM x12) _ _
  obtain rfl := Option.some.inj hm
  refine q_rt ?_
  exact q_rm
 ·obtain ⟨v4, h5, hm⟩ := qD hm
  rcases Bool.eq_false_or_eq_true (v4 == 0) with b6 | b6
  ·replace hm := qC b6 hm
   obtain ⟨v7, h8, hm⟩ := qD hm
   rcases Bool.eq_false_or_eq_true (v7 == 0) with b9 | b9
   ·replace hm := qC b9 hm
    obtain ⟨v10, h11, hm⟩ := qD hm
    refine q_vn [qc 1 [7] 1 (YD a1 v4 h5), qf 3 b6, qk 5 [10, 11] 1 ⟨[(10, vb true), (11, vc (tl qH default a2))], []⟩ (AP a2 v7 h8), qf 8 b9, qd 10 (drw 1 0 (rf qA ([a3] : List Product))) (litP qA default 7 (fun _ => rfl) ([a3] : List Product) 1 rfl), qd 11 (dex (cen [] [] 2 0 (XN v10) (ZE v10) [15, 17] [1])) (jI (K := (kx E 21 0)) (xs' := [.one (.lst 1 (rf qA ([a3] : List Product)))]) (b := false) ⟨[(15, vb true), (17, vo 1 0 7 1)], [(1, ro 0 62 7 1 (rf qA ([a3] : List Product)))]⟩ (opAt (rg Tryz.f42 6) 11) [] [] 2 (o1 (Nat.le_refl 1)) (by simp only [tl, rf, show ([a3] : List Product).length = 1 from rfl]) (qDe ([a3] : List Product) v10 h11) (.inr ⟨(by kernel_rfl), qKy v10⟩) (by kernel_rfl))] 1 ⟨[(6, vb (v10 == 0))], []⟩ ?_
    exact q_J (v10 == 0) hm
   ·replace hm := qB b9 hm
    refine q_vn [qc 1 [7] 1 (YD a1 v4 h5), qf 3 b6, qk 5 [10, 11] 1 ⟨[(10, vb true), (11, vc (tl qH default a2))], []⟩ (AP a2 v7 h8), qf 8 b9] 1 ⟨[(6, vb false)], []⟩ ?_
    exact q_J (false) hm
  ·replace hm := qB b6 hm
   refine q_vn [qc 1 [7] 1 (YD a1 v4 h5), qf 3 b6] 1 ⟨[(6, vb false)], []⟩ ?_
   exact q_J (false) hm
end Saw
end Go.SL
