import Derived.Test.YtjobdnkaonbgnaaEBase
import Derived.Test.YtjobdnkaonbgnaaEFa1
set_option linter.unusedVariables false
set_option linter.unusedSimpArgs false
namespace Go.SL
namespace Saw
open Go.Proofs
set_option maxHeartbeats 4000000
set_option maxRecDepth 100000
def FD (r : Bool) : V := vb r
def NO (r : Bool) : List (Nat × (Nat × O)) := []
def MH (a1 : ByteArray) (x9 : Int) (x18 : Bool) : St :=
 ⟨[(0, vc (cs a1)), (3, vi x9), (39, vb x18)], []⟩
def VA (a1 : ByteArray) (x9 : Int) : St :=
 ⟨[(0, vc (cs a1)), (3, vi x9)], []⟩
def MI : St :=
 ⟨[], []⟩
def LW (a1 : ByteArray) (x7 : Bool) : St :=
 ⟨[(0, vc (cs a1)), (18, vb x7)], []⟩
theorem qAE (E : Env 0) (a1 : ByteArray) : ∀ (n : Nat) (x9 : Int) (res : Bool ⊕ Unit), zV a1 n x9 = some res → HL (kx E 40 0) (nd Try.f68 116) (yY 0 (fun o => MI) (fun v st => RetQ Try.prog Try.f68 (FD v) (NO v) .ret st) res) n (VA a1 x9) := by
 intro n
 induction n with
 | zero =>
  intro x9 res hm
  cases hm
 | succ n ih =>
  intro x9 res hm
  refine qU ?_
  refine q_sq ?_
  refine q_sq ?_
  refine q_vu [] 0 [] [(22, vb (decide (x9 < ((a1.size : Nat) : Int))))] [] [] ?_
  refine q_cn (decide (x9 < ((a1.size : Nat) : Int))) (fun b10 => ?_) (fun b10 => ?_)
  ·replace hm := qA b10 hm
   refine q_sk ?_
   refine q_sq ?_
   refine q_bk 1 ?_
   refine q_sq ?_
   obtain ⟨g11, hm⟩ := qQ hm
   refine q_vu [qd 2 (Dir.none) (inb_of g11)] 0 [22] [(4, vc (.val (.int .u8 (strAt a1 x9.toNat))))] [] [] ?_
   refine q_jn (ι := Bool) (fun p => MH a1 x9 p) (fun p => JX x9 (zV a1 n) p = some res) ?_ ?_
   ·rintro x18 hm
    show H _ (MH a1 x9 x18) _ _
    refine q_cn x18 (fun b19 => ?_) (fun b19 => ?_)
    ·replace hm := qA b19 hm
     refine q_sq ?_
     refine q_vn [] 0 ⟨[(2, vb false)], []⟩ ?_
     obtain rfl := Option.some.inj hm
     refine q_rt ?_
     refine zL false ?_
     exact q_rm
    ·replace hm := qB b19 hm
     refine q_sk ?_
     refine q_vu [] 0 [3, 39] [(3, vi (w64 (x9 + 1)))] [] [] ?_
     exact q_hl (VA a1 (w64 (x9 + 1))) (ih (w64 (x9 + 1)) _ hm)
   ·obtain ⟨v12, h13, hm⟩ := qC hm
    rcases Bool.eq_false_or_eq_true (!v12) with b14 | b14
    ·replace hm := qA b14 hm
     obtain ⟨v15, h16, hm⟩ := qC hm
     rcases Bool.eq_false_or_eq_true (!v15) with b17 | b17
     ·replace hm := qA b17 hm
      refine q_vu [qc 1 [28] 0 (KO (strAt a1 x9.toNat) v12 h13), qf 3 b14, qk 5 [31, 32] 0 ⟨[(31, vb true), (32, vc (.val (.int .u8 (strAt a1 x9.toNat))))], []⟩ (ST (strAt a1 x9.toNat) v15 h16), qf 8 b17] 0 [4] [(39, vb ((strAt a1 x9.toNat) != 95))] [] [] ?_
      exact q_J ((strAt a1 x9.toNat) != 95) hm
     ·replace hm := qB b17 hm
      refine q_vu [qc 1 [28] 0 (KO (strAt a1 x9.toNat) v12 h13), qf 3 b14, qk 5 [31, 32] 0 ⟨[(31, vb true), (32, vc (.val (.int .u8 (strAt a1 x9.toNat))))], []⟩ (ST (strAt a1 x9.toNat) v15 h16), qf 8 b17] 0 [4] [(39, vb false)] [] [] ?_
      exact q_J (false) hm
    ·replace hm := qB b14 hm
     refine q_vu [qc 1 [28] 0 (KO (strAt a1 x9.toNat) v12 h13), qf 3 b14] 0 [4] [(39, vb false)] [] [] ?_
     exact q_J (false) hm
  ·replace hm := qB b10 hm
   refine q_ex 0 ?_
   obtain rfl := Option.some.inj hm
   exact QW () (by kernel_rfl) (by kernel_rfl)
theorem qDb (a1 : ByteArray) (r : Bool) (hm : TS a1 = some r) : CtX Try.prog globs 68 0 0 [.one (cs a1)] [] (FD r) (NO r) := by
 unfold TS at hm
 refine q_E Try.f68 40 fun E => ?_
 refine q_sq ?_
 refine q_vn [] 0 ⟨[(0, vc (cs a1))], []⟩ ?_
 refine q_sq ?_
 refine q_jn (ι := Bool) (fun p => LW a1 p) (fun p => YH a1 p = some r) ?_ ?_
 ·rintro x7 hm
  show H _ (LW a1 x7) _ _
  refine q_cn x7 (fun b8 => ?_) (fun b8 => ?_)
  ·replace hm := qA b8 hm
   refine q_sq ?_
   refine q_vn [] 0 ⟨[(2, vb false)], []⟩ ?_
   obtain rfl := Option.some.inj hm
   refine q_rt ?_
   exact q_rm
  ·replace hm := qB b8 hm
   refine q_sk ?_
   refine q_sq ?_
   refine q_sq ?_
   refine q_vu [] 0 [18] [(3, vi 1)] [] [] ?_
   obtain ⟨u22, h21, hm⟩ := qC hm
   refine wL (nd Try.f68 116) 0 (by kernel_rfl) FUEL (fun o => MI) (fun v st => RetQ Try.prog Try.f68 (FD v) (NO v) .ret st) u22 (q_hl (VA a1 1) (qAE E a1 FUEL 1 u22 h21)) ?_ ?_
   ·rintro v23 rfl st hr
    obtain rfl := Option.some.inj hm
    exact hr
   ·rintro o20 rfl
    replace hm : _ = some r := hm
    refine q_sq ?_
    refine q_vn [] 0 ⟨[(2, vb true)], []⟩ ?_
    obtain rfl := Option.some.inj hm
    refine q_rt ?_
    exact q_rm
 ·rcases Bool.eq_false_or_eq_true (decide (((a1.size : Nat) : Int) < 1)) with b2 | b2
  ·replace hm := qA b2 hm
   refine q_vu [qf 3 b2] 0 [] [(18, vb true)] [] [] ?_
   exact q_J (true) hm
  ·replace hm := qB b2 hm
   rcases Bool.eq_false_or_eq_true (decide (((a1.size : Nat) : Int) > 16)) with b3 | b3
   ·replace hm := qA b3 hm
    refine q_vu [qf 3 b2, qf 8 b3] 0 [] [(18, vb true)] [] [] ?_
    exact q_J (true) hm
   ·replace hm := qB b3 hm
    obtain ⟨g4, hm⟩ := qQ hm
    obtain ⟨v5, h6, hm⟩ := qC hm
    refine q_vu [qf 3 b2, qf 8 b3, qd 10 (Dir.none) (inb_of g4), qk 11 [13, 15] 0 ⟨[(13, vb false), (15, vc (.val (.int .u8 (strAt a1 ((0 : Int).toNat)))))], []⟩ (KO (strAt a1 ((0 : Int).toNat)) v5 h6)] 0 [] [(18, vb (!v5))] [] [] ?_
    exact q_J (!v5) hm
def NM (r : Int × Bool) : V := .tup [.one (ci r.1), .one (cb r.2)]
def NY (r : Int × Bool) : List (Nat × (Nat × O)) := []
def UU (a1 : List Product) (a2 : ByteArray) (x3 : Int) : St :=
 ⟨[(1, vc (cs a2)), (8, vc (tl qD default a1)), (9, vi ((a1.length : Nat) : Int)), (10, vi x3)], []⟩
def MM : St :=
 ⟨[], []⟩
theorem qAI (E : Env 0) (a1 : List Product) (a2 : ByteArray) : ∀ (n : Nat) (x3 : Int) (res : (Int × Bool) ⊕ Unit), yH a1 a2 n x3 = some res → HL (kx E 21 0) (nd Try.f69 52) (yY 0 (fun o => MM) (fun v st => RetQ Try.prog Try.f69 (NM v) (NY v) .ret st) res) n (UU a1 a2 x3) := by
 intro n
 induction n with
 | zero =>
  intro x3 res hm
  cases hm
 | succ n ih =>
  intro x3 res hm
  refine qU ?_
  refine q_sq ?_
  refine q_vu [] 0 [] [(11, vb (decide (x3 < ((a1.length : Nat) : Int))))] [] [] ?_
  refine q_sq ?_
  refine q_cn (decide (x3 < ((a1.length : Nat) : Int))) (fun b4 => ?_) (fun b4 => ?_)
  ·replace hm := qA b4 hm
   refine q_sk ?_
   refine q_sq ?_
   refine q_bk 1 ?_
   refine q_sq ?_
   obtain ⟨g5, hm⟩ := qQ hm
   refine q_vu [qd 1 (Dir.none) (inb_of g5)] 0 [11] [(6, vi x3), (7, vp 0 0)] [] [(0, bx 71 [cs ((a1.getD x3.toNat default).Name), ci ((a1.getD x3.toNat default).Thick), ci ((a1.getD x3.toNat default).Width), ci ((a1.getD x3.toNat default).Allow), ci ((a1.getD x3.toNat default).Wane), tl qL default ((a1.getD x3.toNat default).Lengths), tl qL default ((a1.getD x3.toNat default).Prices)])] ?_
   refine q_sq ?_
   refine q_vu [] 1 [7] [(18, vb (strEq ((a1.getD x3.toNat default).Name) a2))] [0] [] ?_
   refine q_cn (strEq ((a1.getD x3.toNat default).Name) a2) (fun b6 => ?_) (fun b6 => ?_)
   ·replace hm := qA b6 hm
    refine q_sq ?_
    refine q_vn [] 1 ⟨[(4, vi x3), (5, vb true)], []⟩ ?_
    obtain rfl := Option.some.inj hm
    refine q_rt ?_
    refine zL (x3, true) ?_
    exact q_rm
   ·replace hm := qB b6 hm
    refine q_sk ?_
    refine q_vu [] 1 [6, 10, 18] [(10, vi (w64 (x3 + 1)))] [] [] ?_
    exact q_hl (UU a1 a2 (w64 (x3 + 1))) (ih (w64 (x3 + 1)) _ hm)
  ·replace hm := qB b4 hm
   refine q_ex 0 ?_
   obtain rfl := Option.some.inj hm
   exact QW () (by kernel_rfl) (by kernel_rfl)
theorem qC2 (a1 : List Product) (a2 : ByteArray) (r : Int × Bool) (hm : TB a1 a2 = some r) : CtX Try.prog globs 69 0 0 [.one (tl qD default a1), .one (cs a2)] [] (NM r) (NY r) := by
 unfold TB at hm
 refine q_E Try.f69 21 fun E => ?_
 refine q_sq ?_
 refine q_vn [] 0 ⟨[(0, vc (tl qD default a1)), (1, vc (cs a2))], []⟩ ?_
 refine q_sq ?_
 refine q_sq ?_
 refine q_vu [] 0 [0] [(8, vc (tl qD default a1)), (9, vi ((a1.length : Nat) : Int)), (10, vi 0)] [] [] ?_
 obtain ⟨u9, h8, hm⟩ := qC hm
 refine wL (nd Try.f69 52) 0 (by kernel_rfl) FUEL (fun o => MM) (fun v st => RetQ Try.prog Try.f69 (NM v) (NY v) .ret st) u9 (q_hl (UU a1 a2 0) (qAI E a1 a2 FUEL 0 u9 h8)) ?_ ?_
 ·rintro v10 rfl st hr
  obtain rfl := Option.some.inj hm
  exact hr
 ·rintro o7 rfl
  replace hm : _ = some r := hm
  refine q_sq ?_
  refine q_vn [] 0 ⟨[(4, vi 0), (5, vb false)], []⟩ ?_
  obtain rfl := Option.some.inj hm
  refine q_rt ?_
  exact q_rm
set_option maxRecDepth 100000
def qEe (r : Int) : V := vi r
def qD0 (r : Int) : List (Nat × (Nat × O)) := []
theorem EH (a1 : Int) (a2 : Int) (r : Int) (hm : TP a1 a2 = some r) : CtX Try.prog globs 93 0 0 [.one (ci a1), .one (ci a2)] [] (qEe r) (qD0 r) := by
 unfold TP at hm
 refine q_E Try.f93 11 fun E => ?_
 refine q_sq ?_
 refine q_vn [] 0 ⟨[(0, vi a1), (1, vi a2)], []⟩ ?_
 refine q_sq ?_
 refine q_vn [qd 5 (Dir.none) (show (1000 : Int) ≠ 0 by decide)] 0 ⟨[(4, vi (w64 (Int.tdiv (w64 ((w64 (a1 * (w64 (1000 + a2)))) + 999)) 1000)))], []⟩ ?_
 obtain rfl := Option.some.inj hm
 refine q_rt ?_
 exact q_rm
open Go.Proofs
set_option maxHeartbeats 4000000
set_option maxRecDepth 100000
def qCr (r : Bool) : V := vb r
def qCk (r : Bool) : List (Nat × (Nat × O)) := []
def NC (x3 : Bool) : St :=
 ⟨[(2, vb x3)], []⟩
theorem jG (a1 : Int) (r : Bool) (hm : WD a1 = some r) : CtX Try.prog globs 92 0 0 [.one (ci a1)] [] (qCr r) (qCk r) := by
 unfold WD at hm
 refine q_E Try.f92 9 fun E => ?_
 refine q_sq ?_
 refine q_vn [] 0 ⟨[(0, vi a1)], []⟩ ?_
 refine q_jn (ι := Bool) (fun p => NC p) (fun p => YQ p = some r) ?_ ?_
 ·rintro x3 hm
  show H _ (NC x3) _ _
  obtain rfl := Option.some.inj hm
  refine q_rt ?_
  exact q_rm
 ·rcases Bool.eq_false_or_eq_true (decide (a1 ≥ 1)) with b2 | b2
  ·replace hm := qA b2 hm
   refine q_vn [qf 2 b2] 0 ⟨[(2, vb (decide (a1 ≤ 600)))], []⟩ ?_
   exact q_J (decide (a1 ≤ 600)) hm
  ·replace hm := qB b2 hm
   refine q_vn [qf 2 b2] 0 ⟨[(2, vb false)], []⟩ ?_
   exact q_J (false) hm
def qDu (r : Int × Int) : V := .tup [.one (ci r.1), .one (ci r.2)]
def qDe (r : Int × Int) : List (Nat × (Nat × O)) := []
def LG (a1 : Product) (x9 : Bool) : St :=
 ⟨[(1, vp 0 0), (23, vb x9)], [(0, bx 71 (qD a1))]⟩
theorem GG (a1 : Product) (r : Int × Int) (hm : ZQ a1 = some r) : CtX Try.prog globs 72 0 0 [.agg (qD a1)] [] (qDu r) (qDe r) := by
 unfold ZQ at hm
 refine q_E Try.f72 34 fun E => ?_
 refine q_sq ?_
 refine q_vn [] 0 ⟨[(1, vp 0 0)], [(0, bx 71 (qD a1))]⟩ ?_
 refine q_sq ?_
 refine q_jn (ι := Bool) (fun p => LG a1 p) (fun p => QN a1 p = some r) ?_ ?_
 ·rintro x9 hm
  show H _ (LG a1 x9) _ _
  refine q_cn x9 (fun b10 => ?_) (fun b10 => ?_)
  ·replace hm := qA b10 hm
   refine q_sq ?_
   refine q_vn [] 1 ⟨[(2, vi 0), (3, vi 0)], []⟩ ?_
   obtain rfl := Option.some.inj hm
   refine q_rt ?_
   exact q_rm
  ·replace hm := qB b10 hm
   refine q_sk ?_
   refine q_sq ?_
   obtain ⟨v11, h12, hm⟩ := qC hm
   obtain ⟨v13, h14, hm⟩ := qC hm
   refine q_dn [qc 4 [25, 27] 1 (EH a1.Thick a1.Allow v11 h12), qc 9 [30, 32] 1 (EH a1.Width a1.Allow v13 h14)] [0, 1, 0, 4, 15, 0, 32, 0, 128, 511, 1023, 2047] 1 ⟨[(2, vi v11), (3, vi v13)], []⟩ ?_
   obtain rfl := Option.some.inj hm
   refine q_rt ?_
   exact q_rm
 ·obtain ⟨v2, h3, hm⟩ := qC hm
  rcases Bool.eq_false_or_eq_true (!v2) with b4 | b4
  ·replace hm := qA b4 hm
   refine q_vu [qc 2 [5] 1 (jG a1.Thick v2 h3), qf 4 b4] 1 [] [(23, vb true)] [] [] ?_
   exact q_J (true) hm
  ·replace hm := qB b4 hm
   obtain ⟨v5, h6, hm⟩ := qC hm
   rcases Bool.eq_false_or_eq_true (!v5) with b7 | b7
   ·replace hm := qA b7 hm
    refine q_vu [qc 2 [5] 1 (jG a1.Thick v2 h3), qf 4 b4, qk 7 [8, 10] 1 ⟨[(8, vb false), (10, vi a1.Width)], []⟩ (jG a1.Width v5 h6), qf 10 b7] 1 [] [(23, vb true)] [] [] ?_
    exact q_J (true) hm
   ·replace hm := qB b7 hm
    rcases Bool.eq_false_or_eq_true (decide (a1.Allow < 0)) with b8 | b8
    ·replace hm := qA b8 hm
     refine q_vu [qc 2 [5] 1 (jG a1.Thick v2 h3), qf 4 b4, qk 7 [8, 10] 1 ⟨[(8, vb false), (10, vi a1.Width)], []⟩ (jG a1.Width v5 h6), qf 10 b7, qf 15 b8] 1 [] [(23, vb true)] [] [] ?_
     exact q_J (true) hm
    ·replace hm := qB b8 hm
     refine q_vu [qc 2 [5] 1 (jG a1.Thick v2 h3), qf 4 b4, qk 7 [8, 10] 1 ⟨[(8, vb false), (10, vi a1.Width)], []⟩ (jG a1.Width v5 h6), qf 10 b7, qf 15 b8] 1 [] [(23, vb (decide (a1.Allow > 200)))] [] [] ?_
     exact q_J (decide (a1.Allow > 200)) hm
set_option maxRecDepth 100000
def jK (r : Int) : V := vi r
def jL (r : Int) : List (Nat × (Nat × O)) := []
def RH (a1 : Product) (x18 : Int) (x26 : Bool) : St :=
 ⟨[(1, vp 0 0), (70, vc (tl qL default a1.Lengths)), (71, vi ((a1.Lengths.length : Nat) : Int)), (72, vi x18), (94, vb x26)], [(0, bx 71 (qD a1))]⟩
def PU (a1 : Product) (x18 : Int) (x22 : Bool) : St :=
 ⟨[(1, vp 0 0), (5, vi x18), (6, vi (a1.Lengths.getD x18.toNat default)), (70, vc (tl qL default a1.Lengths)), (71, vi ((a1.Lengths.length : Nat) : Int)), (72, vi x18), (82, vb x22)], [(0, bx 71 (qD a1))]⟩
def ZW (a1 : Product) (x18 : Int) : St :=
 ⟨[(1, vp 0 0), (70, vc (tl qL default a1.Lengths)), (71, vi ((a1.Lengths.length : Nat) : Int)), (72, vi x18)], [(0, bx 71 (qD a1))]⟩
def RB (a1 : Product) : St :=
 ⟨[(1, vp 0 0)], [(0, bx 71 (qD a1))]⟩
def PQ (a1 : Product) (x32 : Int) (x36 : Bool) : St :=
 ⟨[(97, vc (tl qL default a1.Prices)), (98, vi ((a1.Prices.length : Nat) : Int)), (99, vi x32), (108, vb x36)], []⟩
def ZX (a1 : Product) (x32 : Int) : St :=
 ⟨[(97, vc (tl qL default a1.Prices)), (98, vi ((a1.Prices.length : Nat) : Int)), (99, vi x32)], []⟩
def PW : St :=
 ⟨[], []⟩
def PP (a1 : Product) (x10 : Bool) : St :=
 ⟨[(1, vp 0 0), (46, vb x10)], [(0, bx 71 (qD a1))]⟩
def PZ (a1 : Product) (x5 : Bool) : St :=
 ⟨[(1, vp 0 0), (28, vb x5)], [(0, bx 71 (qD a1))]⟩
theorem LU (E : Env 0) (a1 : Product) : ∀ (n : Nat) (x18 : Int) (res : Int ⊕ Unit), qY a1 n x18 = some res → HL (kx E 110 0) (nd Try.f70 4084) (yY 0 (fun o => RB a1) (fun v st => RetQ Try.prog Try.f70 (jK v) (jL v) .ret st) res) n (ZW a1 x18) := by
 intro n
 induction n with
 | zero =>
  intro x18 res hm
  cases hm
 | succ n ih =>
  intro x18 res hm
  refine qU ?_
  refine q_sq ?_
  refine q_vu [] 1 [] [(73, vb (decide (x18 < ((a1.Lengths.length : Nat) : Int))))] [] [] ?_
  refine q_sq ?_
  refine q_cn (decide (x18 < ((a1.Lengths.length : Nat) : Int))) (fun b19 => ?_) (fun b19 => ?_)
  ·replace hm := qA b19 hm
   refine q_sk ?_
   refine q_sq ?_
   refine q_bk 1 ?_
   refine q_sq ?_
   obtain ⟨g20, hm⟩ := qQ hm
   refine q_vu [qd 1 (Dir.none) (inb_of g20)] 1 [73] [(5, vi x18), (6, vi (a1.Lengths.getD x18.toNat default))] [] [] ?_
   refine q_sq ?_
   refine q_jn (ι := Bool) (fun p => PU a1 x18 p) (fun p => QB a1 x18 (qY a1 n) p = some res) ?_ ?_
   ·rintro x22 hm
    show H _ (PU a1 x18 x22) _ _
    refine q_cn x22 (fun b23 => ?_) (fun b23 => ?_)
    ·replace hm := qA b23 hm
     refine q_sq ?_
     refine q_vn [] 1 ⟨[(2, vi 9)], []⟩ ?_
     obtain rfl := Option.some.inj hm
     refine q_rt ?_
     refine zL 9 ?_
     exact q_rm
    ·replace hm := qB b23 hm
     refine q_sk ?_
     refine q_jn (ι := Bool) (fun p => RH a1 x18 p) (fun p => yX x18 (qY a1 n) p = some res) ?_ ?_
     ·rintro x26 hm
      show H _ (RH a1 x18 x26) _ _
      refine q_cn x26 (fun b27 => ?_) (fun b27 => ?_)
      ·replace hm := qA b27 hm
       refine q_sq ?_
       refine q_vn [] 1 ⟨[(2, vi 11)], []⟩ ?_
       obtain rfl := Option.some.inj hm
       refine q_rt ?_
       refine zL 11 ?_
       exact q_rm
      ·replace hm := qB b27 hm
       refine q_sk ?_
       refine q_vu [] 1 [72, 94] [(72, vi (w64 (x18 + 1)))] [] [] ?_
       exact q_hl (ZW a1 (w64 (x18 + 1))) (ih (w64 (x18 + 1)) _ hm)
     ·rcases Bool.eq_false_or_eq_true (decide (x18 > 0)) with b24 | b24
      ·replace hm := qA b24 hm
       obtain ⟨g25, hm⟩ := qQ hm
       refine q_vu [qf 2 b24, qd 8 (Dir.none) (inb_of g25)] 1 [5, 6, 82] [(94, vb (decide ((a1.Lengths.getD x18.toNat default) ≤ (a1.Lengths.getD (w64 (x18 - 1)).toNat default))))] [] [] ?_
       exact q_J (decide ((a1.Lengths.getD x18.toNat default) ≤ (a1.Lengths.getD (w64 (x18 - 1)).toNat default))) hm
      ·replace hm := qB b24 hm
       refine q_vu [qf 2 b24] 1 [5, 6, 82] [(94, vb false)] [] [] ?_
       exact q_J (false) hm
   ·rcases Bool.eq_false_or_eq_true (decide ((a1.Lengths.getD x18.toNat default) < 100)) with b21 | b21
    ·replace hm := qA b21 hm
     refine q_vu [qf 2 b21] 1 [] [(82, vb true)] [] [] ?_
     exact q_J (true) hm
    ·replace hm := qB b21 hm
     refine q_vu [qf 2 b21] 1 [] [(82, vb (decide ((a1.Lengths.getD x18.toNat default) > 20000)))] [] [] ?_
     exact q_J (decide ((a1.Lengths.getD x18.toNat default) > 20000)) hm
  ·replace hm := qB b19 hm
   refine q_ex 0 ?_
   obtain rfl := Option.some.inj hm
   exact QW () (by kernel_rfl) (by kernel_rfl)
theorem LQ (E : Env 0) (a1 : Product) : ∀ (n : Nat) (x32 : Int) (res : Int ⊕ Unit), zE a1 n x32 = some res → HL (kx E 110 0) (nd Try.f70 8180) (yY 2 (fun o => PW) (fun v st => RetQ Try.prog Try.f70 (jK v) (jL v) .ret st) res) n (ZX a1 x32) := by
 intro n
 induction n with
 | zero =>
  intro x32 res hm
  cases hm
 | succ n ih =>
  intro x32 res hm
  refine qU ?_
  refine q_sq ?_
  refine q_vu [] 1 [] [(100, vb (decide (x32 < ((a1.Prices.length : Nat) : Int))))] [] [] ?_
  refine q_sq ?_
  refine q_cn (decide (x32 < ((a1.Prices.length : Nat) : Int))) (fun b33 => ?_) (fun b33 => ?_)
  ·replace hm := qA b33 hm
   refine q_sk ?_
   refine q_sq ?_
   refine q_bk 3 ?_
   refine q_sq ?_
   obtain ⟨g34, hm⟩ := qQ hm
   refine q_vu [qd 0 (Dir.none) (inb_of g34)] 1 [100] [(8, vi (a1.Prices.getD x32.toNat default))] [] [] ?_
   refine q_jn (ι := Bool) (fun p => PQ a1 x32 p) (fun p => QD x32 (zE a1 n) p = some res) ?_ ?_
   ·rintro x36 hm
    show H _ (PQ a1 x32 x36) _ _
    refine q_cn x36 (fun b37 => ?_) (fun b37 => ?_)
    ·replace hm := qA b37 hm
     refine q_sq ?_
     refine q_vn [] 1 ⟨[(2, vi 9)], []⟩ ?_
     obtain rfl := Option.some.inj hm
     refine q_rt ?_
     refine zL 9 ?_
     exact q_rm
    ·replace hm := qB b37 hm
     refine q_sk ?_
     refine q_vu [] 1 [99, 108] [(99, vi (w64 (x32 + 1)))] [] [] ?_
     exact q_hl (ZX a1 (w64 (x32 + 1))) (ih (w64 (x32 + 1)) _ hm)
   ·rcases Bool.eq_false_or_eq_true (decide ((a1.Prices.getD x32.toNat default) < 0)) with b35 | b35
    ·replace hm := qA b35 hm
     refine q_vu [qf 2 b35] 1 [8] [(108, vb true)] [] [] ?_
     exact q_J (true) hm
    ·replace hm := qB b35 hm
     refine q_vu [qf 2 b35] 1 [8] [(108, vb (decide ((a1.Prices.getD x32.toNat default) > 1000000)))] [] [] ?_
     exact q_J (decide ((a1.Prices.getD x32.toNat default) > 1000000)) hm
  ·replace hm := qB b33 hm
   refine q_ex 2 ?_
   obtain rfl := Option.some.inj hm
   exact QW () (by kernel_rfl) (by kernel_rfl)
theorem SW (a1 : Product) (r : Int) (hm : yP a1 = some r) : CtX Try.prog globs 70 0 0 [.agg (qD a1)] [] (jK r) (jL r) := by
 unfold yP at hm
 refine q_E Try.f70 110 fun E => ?_
 refine q_sq ?_
 refine q_vn [] 0 ⟨[(1, vp 0 0)], [(0, bx 71 (qD a1))]⟩ ?_
 refine q_sq ?_
 refine q_jn (ι := Bool) (fun p => PZ a1 p) (fun p => wA a1 p = some r) ?_ ?_
 ·rintro x5 hm
  show H _ (PZ a1 x5) _ _
  refine q_cn x5 (fun b6 => ?_) (fun b6 => ?_)
  ·replace hm := qA b6 hm
   refine q_sq ?_
   refine q_vn [] 1 ⟨[(2, vi 9)], []⟩ ?_
   obtain rfl := Option.some.inj hm
   refine q_rt ?_
   exact q_rm
  ·replace hm := qB b6 hm
   refine q_sk ?_
   refine q_sq ?_
   refine q_jn (ι := Bool) (fun p => PP a1 p) (fun p => zZ a1 p = some r) ?_ ?_
   ·rintro x10 hm
    show H _ (PP a1 x10) _ _
    refine q_cn x10 (fun b11 => ?_) (fun b11 => ?_)
    ·replace hm := qA b11 hm
     refine q_sq ?_
     refine q_vn [] 1 ⟨[(2, vi 9)], []⟩ ?_
     obtain rfl := Option.some.inj hm
     refine q_rt ?_
     exact q_rm
    ·replace hm := qB b11 hm
     refine q_sk ?_
     refine q_sq ?_
     refine q_sq ?_
     obtain ⟨v12, h13, hm⟩ := qC hm
     refine q_vu [qc 1 [48] 1 (GG a1 v12 h13)] 1 [46] [(4, vi v12.2)] [] [] ?_
     refine q_sq ?_
     refine q_vu [] 1 [4] [(53, vb (decide (v12.2 > 600)))] [] [] ?_
     refine q_cn (decide (v12.2 > 600)) (fun b14 => ?_) (fun b14 => ?_)
     ·replace hm := qA b14 hm
      refine q_sq ?_
      refine q_vn [] 1 ⟨[(2, vi 9)], []⟩ ?_
      obtain rfl := Option.some.inj hm
      refine q_rt ?_
      exact q_rm
     ·replace hm := qB b14 hm
      refine q_sk ?_
      refine q_sq ?_
      refine q_sq ?_
      refine q_vu [] 1 [53] [(57, vb (((a1.Lengths.length : Nat) : Int) == 0))] [] [] ?_
      refine q_cn (((a1.Lengths.length : Nat) : Int) == 0) (fun b15 => ?_) (fun b15 => ?_)
      ·replace hm := qA b15 hm
       refine q_sq ?_
       refine q_vn [] 1 ⟨[(2, vi 3)], []⟩ ?_
       obtain rfl := Option.some.inj hm
       refine q_rt ?_
       exact q_rm
      ·replace hm := qB b15 hm
       refine q_sk ?_
       refine q_sq ?_
       refine q_sq ?_
       refine q_vu [] 1 [57] [(61, vb (decide (((a1.Lengths.length : Nat) : Int) > 8)))] [] [] ?_
       refine q_cn (decide (((a1.Lengths.length : Nat) : Int) > 8)) (fun b16 => ?_) (fun b16 => ?_)
       ·replace hm := qA b16 hm
        refine q_sq ?_
        refine q_vn [] 1 ⟨[(2, vi 4)], []⟩ ?_
        obtain rfl := Option.some.inj hm
        refine q_rt ?_
        exact q_rm
       ·replace hm := qB b16 hm
        refine q_sk ?_
        refine q_sq ?_
        refine q_sq ?_
        refine q_vu [] 1 [61] [(68, vb (((a1.Prices.length : Nat) : Int) != ((a1.Lengths.length : Nat) : Int)))] [] [] ?_
        refine q_cn (((a1.Prices.length : Nat) : Int) != ((a1.Lengths.length : Nat) : Int)) (fun b17 => ?_) (fun b17 => ?_)
        ·replace hm := qA b17 hm
         refine q_sq ?_
         refine q_vn [] 1 ⟨[(2, vi 19)], []⟩ ?_
         obtain rfl := Option.some.inj hm
         refine q_rt ?_
         exact q_rm
        ·replace hm := qB b17 hm
         refine q_sk ?_
         refine q_sq ?_
         refine q_sq ?_
         refine q_vu [] 1 [68] [(70, vc (tl qL default a1.Lengths)), (71, vi ((a1.Lengths.length : Nat) : Int)), (72, vi 0)] [] [] ?_
         obtain ⟨u30, h29, hm⟩ := qC hm
         refine wL (nd Try.f70 4084) 0 (by kernel_rfl) FUEL (fun o => RB a1) (fun v st => RetQ Try.prog Try.f70 (jK v) (jL v) .ret st) u30 (q_hl (ZW a1 0) (LU E a1 FUEL 0 u30 h29)) ?_ ?_
         ·rintro v31 rfl st hr
          obtain rfl := Option.some.inj hm
          exact hr
         ·rintro o28 rfl
          replace hm : _ = some r := hm
          refine q_sq ?_
          refine q_sq ?_
          refine q_vn [] 1 ⟨[(97, vc (tl qL default a1.Prices)), (98, vi ((a1.Prices.length : Nat) : Int)), (99, vi 0)], []⟩ ?_
          obtain ⟨u40, h39, hm⟩ := qC hm
          refine wL (nd Try.f70 8180) 2 (by kernel_rfl) FUEL (fun o => PW) (fun v st => RetQ Try.prog Try.f70 (jK v) (jL v) .ret st) u40 (q_hl (ZX a1 0) (LQ E a1 FUEL 0 u40 h39)) ?_ ?_
          ·rintro v41 rfl st hr
           obtain rfl := Option.some.inj hm
           exact hr
          ·rintro o38 rfl
           replace hm : _ = some r := hm
           refine q_sq ?_
           refine q_vn [] 1 ⟨[(2, vi 0)], []⟩ ?_
           obtain rfl := Option.some.inj hm
           refine q_rt ?_
           exact q_rm
   ·rcases Bool.eq_false_or_eq_true (decide (a1.Allow < 0)) with b7 | b7
    ·replace hm := qA b7 hm
     refine q_vu [qf 3 b7] 1 [28] [(46, vb true)] [] [] ?_
     exact q_J (true) hm
    ·replace hm := qB b7 hm
     rcases Bool.eq_false_or_eq_true (decide (a1.Allow > 200)) with b8 | b8
     ·replace hm := qA b8 hm
      refine q_vu [qf 3 b7, qf 8 b8] 1 [28] [(46, vb true)] [] [] ?_
      exact q_J (true) hm
     ·replace hm := qB b8 hm
      rcases Bool.eq_false_or_eq_true (decide (a1.Wane < 0)) with b9 | b9
      ·replace hm := qA b9 hm
       refine q_vu [qf 3 b7, qf 8 b8, qf 13 b9] 1 [28] [(46, vb true)] [] [] ?_
       exact q_J (true) hm
      ·replace hm := qB b9 hm
       refine q_vu [qf 3 b7, qf 8 b8, qf 13 b9] 1 [28] [(46, vb (decide (a1.Wane > 1000)))] [] [] ?_
       exact q_J (decide (a1.Wane > 1000)) hm
 ·rcases Bool.eq_false_or_eq_true (decide (a1.Thick < 5)) with b2 | b2
  ·replace hm := qA b2 hm
   refine q_vu [qf 3 b2] 1 [] [(28, vb true)] [] [] ?_
   exact q_J (true) hm
  ·replace hm := qB b2 hm
   rcases Bool.eq_false_or_eq_true (decide (a1.Thick > 300)) with b3 | b3
   ·replace hm := qA b3 hm
    refine q_vu [qf 3 b2, qf 8 b3] 1 [] [(28, vb true)] [] [] ?_
    exact q_J (true) hm
   ·replace hm := qB b3 hm
    rcases Bool.eq_false_or_eq_true (decide (a1.Width < a1.Thick)) with b4 | b4
    ·replace hm := qA b4 hm
     refine q_vu [qf 3 b2, qf 8 b3, qf 15 b4] 1 [] [(28, vb true)] [] [] ?_
     exact q_J (true) hm
    ·replace hm := qB b4 hm
     refine q_vu [qf 3 b2, qf 8 b3, qf 15 b4] 1 [] [(28, vb (decide (a1.Width > 600)))] [] [] ?_
     exact q_J (decide (a1.Width > 600)) hm
open Go.Proofs
set_option maxHeartbeats 4000000
set_option maxRecDepth 100000
def JO (r : Int) : V := vi r
def yN (r : Int) : List (Nat × (Nat × O)) := []
theorem EK (r : Int) : RN (yN r) := by
 intro i k o h
 unfold yN at h
 cases h
def TE (a1 : List Product) (x3 : Int) : St :=
 ⟨[(0, vc (tl qD default a1)), (11, vc (tl qD default a1)), (12, vi ((a1.length : Nat) : Int)), (13, vi x3)], []⟩
def FW : St :=
 ⟨[], []⟩
theorem CP (E : Env 0) (a1 : List Product) : ∀ (n : Nat) (x3 : Int) (res : Int ⊕ Unit), jR a1 n x3 = some res → HL (kx E 38 0) (nd Try.f52 116) (yY 0 (fun o => FW) (fun v st => RetQ Try.prog Try.f52 (JO v) (yN v) .ret st) res) n (TE a1 x3) := by
 intro n
 induction n with
 | zero =>
  intro x3 res hm
  cases hm
 | succ n ih =>
  intro x3 res hm
  refine qU ?_
  refine q_sq ?_
  refine q_vu [] 0 [] [(14, vb (decide (x3 < ((a1.length : Nat) : Int))))] [] [] ?_
  refine q_sq ?_
  refine q_cn (decide (x3 < ((a1.length : Nat) : Int))) (fun b4 => ?_) (fun b4 => ?_)
  ·replace hm := qA b4 hm
   refine q_sk ?_
   refine q_sq ?_
   refine q_bk 1 ?_
   refine q_sq ?_
   obtain ⟨g5, hm⟩ := qQ hm
   refine q_vu [qd 1 (Dir.none) (inb_of g5)] 0 [14] [(3, vi x3), (4, vp 0 0)] [] [(0, bx 71 [cs ((a1.getD x3.toNat default).Name), ci ((a1.getD x3.toNat default).Thick), ci ((a1.getD x3.toNat default).Width), ci ((a1.getD x3.toNat default).Allow), ci ((a1.getD x3.toNat default).Wane), tl qL default ((a1.getD x3.toNat default).Lengths), tl qL default ((a1.getD x3.toNat default).Prices)])] ?_
   refine q_sq ?_
   refine q_sq ?_
   obtain ⟨v6, h7, hm⟩ := qC hm
   refine q_vu [qc 2 [19] 1 (qDb ((a1.getD x3.toNat default).Name) v6 h7)] 1 [] [(21, vb (!v6))] [] [] ?_
   refine q_cn (!v6) (fun b8 => ?_) (fun b8 => ?_)
   ·replace hm := qA b8 hm
    refine q_sq ?_
    refine q_vn [] 1 ⟨[(2, vi 6)], []⟩ ?_
    obtain rfl := Option.some.inj hm
    refine q_rt ?_
    refine zL 6 ?_
    exact q_rm
   ·replace hm := qB b8 hm
    refine q_sk ?_
    refine q_sq ?_
    refine q_sq ?_
    obtain ⟨g9, hm⟩ := qQ hm
    obtain ⟨v10, h11, hm⟩ := qC hm
    refine q_du [qd 2 (drw ((a1.take x3.toNat).length) 0 (rf qD (a1.take x3.toNat))) (slPhi qD default a1 x3 (And.intro (slOk_of g9).2.1 (slOk_of g9).2.2)), qc 5 [25, 27] 1 (qC2 (a1.take x3.toNat) ((a1.getD x3.toNat default).Name) v10 h11)] [0, 0, 3, 0, 8, 31, 63, 127, 127, 255, 1023] 1 [3, 21] [(6, vb v10.2)] [] [] ?_
    refine q_sq ?_
    refine q_vu [] 1 [6] [(31, vb v10.2)] [] [] ?_
    refine q_cn v10.2 (fun b12 => ?_) (fun b12 => ?_)
    ·replace hm := qA b12 hm
     refine q_sq ?_
     refine q_vn [] 1 ⟨[(2, vi 7)], []⟩ ?_
     obtain rfl := Option.some.inj hm
     refine q_rt ?_
     refine zL 7 ?_
     exact q_rm
    ·replace hm := qB b12 hm
     refine q_sk ?_
     refine q_sq ?_
     obtain ⟨v13, h14, hm⟩ := qC hm
     refine q_vu [qc 1 [32] 1 (SW (a1.getD x3.toNat default) v13 h14)] 1 [4, 31] [(7, vi v13)] [0] [] ?_
     refine q_sq ?_
     refine q_vu [] 1 [] [(35, vb (v13 != 0))] [] [] ?_
     refine q_cn (v13 != 0) (fun b15 => ?_) (fun b15 => ?_)
     ·replace hm := qA b15 hm
      refine q_sq ?_
      refine q_vn [] 1 ⟨[(2, vi v13)], []⟩ ?_
      obtain rfl := Option.some.inj hm
      refine q_rt ?_
      refine zL v13 ?_
      exact q_rm
     ·replace hm := qB b15 hm
      refine q_sk ?_
      refine q_vu [] 1 [7, 13, 35] [(13, vi (w64 (x3 + 1)))] [] [] ?_
      exact q_hl (TE a1 (w64 (x3 + 1))) (ih (w64 (x3 + 1)) _ hm)
  ·replace hm := qB b4 hm
   refine q_ex 0 ?_
   obtain rfl := Option.some.inj hm
   exact QW () (by kernel_rfl) (by kernel_rfl)
theorem GP (a1 : List Product) (r : Int) (hm : JI a1 = some r) : CtX Try.prog globs 52 0 0 [.one (tl qD default a1)] [] (JO r) (yN r) := by
 unfold JI at hm
 refine q_E Try.f52 38 fun E => ?_
 refine q_sq ?_
 refine q_vn [] 0 ⟨[(0, vc (tl qD default a1))], []⟩ ?_
 refine q_sq ?_
 refine q_sq ?_
 refine q_vu [] 0 [] [(10, vb (decide (((a1.length : Nat) : Int) > 16)))] [] [] ?_
 refine q_cn (decide (((a1.length : Nat) : Int) > 16)) (fun b2 => ?_) (fun b2 => ?_)
 ·replace hm := qA b2 hm
  refine q_sq ?_
  refine q_vn [] 0 ⟨[(2, vi 4)], []⟩ ?_
  obtain rfl := Option.some.inj hm
  refine q_rt ?_
  exact q_rm
 ·replace hm := qB b2 hm
  refine q_sk ?_
  refine q_sq ?_
  refine q_sq ?_
  refine q_vu [] 0 [10] [(11, vc (tl qD default a1)), (12, vi ((a1.length : Nat) : Int)), (13, vi 0)] [] [] ?_
  obtain ⟨u18, h17, hm⟩ := qC hm
  refine wL (nd Try.f52 116) 0 (by kernel_rfl) FUEL (fun o => FW) (fun v st => RetQ Try.prog Try.f52 (JO v) (yN v) .ret st) u18 (q_hl (TE a1 0) (CP E a1 FUEL 0 u18 h17)) ?_ ?_
  ·rintro v19 rfl st hr
   obtain rfl := Option.some.inj hm
   exact hr
  ·rintro o16 rfl
   replace hm : _ = some r := hm
   refine q_sq ?_
   refine q_vn [] 0 ⟨[(2, vi 0)], []⟩ ?_
   obtain rfl := Option.some.inj hm
   refine q_rt ?_
   exact q_rm
def qD5 (r : Bool) : V := vb r
def qDV (r : Bool) : List (Nat × (Nat × O)) := []
def MD (x3 : Bool) : St :=
 ⟨[(2, vb x3)], []⟩
theorem AG (a1 : Int) (r : Bool) (hm : YW a1 = some r) : CtX Try.prog globs 62 0 0 [.one (ci a1)] [] (qD5 r) (qDV r) := by
 unfold YW at hm
 refine q_E Try.f62 9 fun E => ?_
 refine q_sq ?_
 refine q_vn [] 0 ⟨[(0, vi a1)], []⟩ ?_
 refine q_jn (ι := Bool) (fun p => MD p) (fun p => RG p = some r) ?_ ?_
 ·rintro x3 hm
  show H _ (MD x3) _ _
  obtain rfl := Option.some.inj hm
  refine q_rt ?_
  exact q_rm
 ·rcases Bool.eq_false_or_eq_true (decide (a1 ≥ 0)) with b2 | b2
  ·replace hm := qA b2 hm
   refine q_vn [qf 2 b2] 0 ⟨[(2, vb (decide (a1 ≤ 1000000)))], []⟩ ?_
   exact q_J (decide (a1 ≤ 1000000)) hm
  ·replace hm := qB b2 hm
   refine q_vn [qf 2 b2] 0 ⟨[(2, vb false)], []⟩ ?_
   exact q_J (false) hm
set_option maxRecDepth 100000
def qDW (r : Bool) : V := vb r
def qDA (r : Bool) : List (Nat × (Nat × O)) := []
def MK (x3 : Bool) : St :=
 ⟨[(2, vb x3)], []⟩
theorem BT (a1 : Int) (r : Bool) (hm : XP a1 = some r) : CtX Try.prog globs 61 0 0 [.one (ci a1)] [] (qDW r) (qDA r) := by
 unfold XP at hm
 refine q_E Try.f61 9 fun E => ?_
 refine q_sq ?_
 refine q_vn [] 0 ⟨[(0, vi a1)], []⟩ ?_
 refine q_jn (ι := Bool) (fun p => MK p) (fun p => RC p = some r) ?_ ?_
 ·rintro x3 hm
  show H _ (MK x3) _ _
  obtain rfl := Option.some.inj hm
  refine q_rt ?_
  exact q_rm
 ·rcases Bool.eq_false_or_eq_true (decide (a1 ≥ 1)) with b2 | b2
  ·replace hm := qA b2 hm
   refine q_vn [qf 2 b2] 0 ⟨[(2, vb (decide (a1 ≤ 20000)))], []⟩ ?_
   exact q_J (decide (a1 ≤ 20000)) hm
  ·replace hm := qB b2 hm
   refine q_vn [qf 2 b2] 0 ⟨[(2, vb false)], []⟩ ?_
   exact q_J (false) hm
open Go.Proofs
set_option maxHeartbeats 4000000
set_option maxRecDepth 100000
def qFn (r : Int) : V := vi r
def qFm (r : Int) : List (Nat × (Nat × O)) := []
def HX (x20 : Bool) : St :=
 ⟨[(60, vb x20)], []⟩
def HM (a2 : Rates) (x12 : Bool) : St :=
 ⟨[(3, vp 1 0), (36, vb x12)], [(1, bx 35 (WF a2))]⟩
def SH (a1 : Saw) (a2 : Rates) (x6 : Bool) : St :=
 ⟨[(2, vp 0 0), (3, vp 1 0), (22, vb x6)], [(0, bx 33 (wY a1)), (1, bx 35 (WF a2))]⟩
theorem qEi (a1 : Saw) (a2 : Rates) (r : Int) (hm : VX a1 a2 = some r) : CtX Try.prog globs 53 0 0 [.agg (wY a1), .agg (WF a2)] [] (qFn r) (qFm r) := by
 unfold VX at hm
 refine q_E Try.f53 61 fun E => ?_
 refine q_sq ?_
 refine q_vn [] 0 ⟨[(2, vp 0 0), (3, vp 1 0)], [(0, bx 33 (wY a1)), (1, bx 35 (WF a2))]⟩ ?_
 refine q_sq ?_
 refine q_jn (ι := Bool) (fun p => SH a1 a2 p) (fun p => WI a1 a2 p = some r) ?_ ?_
 ·rintro x6 hm
  show H _ (SH a1 a2 x6) _ _
  refine q_cn x6 (fun b7 => ?_) (fun b7 => ?_)
  ·replace hm := qA b7 hm
   refine q_sq ?_
   refine q_vn [] 2 ⟨[(4, vi 9)], []⟩ ?_
   obtain rfl := Option.some.inj hm
   refine q_rt ?_
   exact q_rm
  ·replace hm := qB b7 hm
   refine q_sk ?_
   refine q_sq ?_
   refine q_jn (ι := Bool) (fun p => HM a2 p) (fun p => XX a2 p = some r) ?_ ?_
   ·rintro x12 hm
    show H _ (HM a2 x12) _ _
    refine q_cn x12 (fun b13 => ?_) (fun b13 => ?_)
    ·replace hm := qA b13 hm
     refine q_sq ?_
     refine q_vn [] 2 ⟨[(4, vi 9)], []⟩ ?_
     obtain rfl := Option.some.inj hm
     refine q_rt ?_
     exact q_rm
    ·replace hm := qB b13 hm
     refine q_sk ?_
     refine q_sq ?_
     refine q_jn (ι := Bool) (fun p => HX p) (fun p => QP p = some r) ?_ ?_
     ·rintro x20 hm
      show H _ (HX x20) _ _
      refine q_cn x20 (fun b21 => ?_) (fun b21 => ?_)
      ·replace hm := qA b21 hm
       refine q_sq ?_
       refine q_vn [] 2 ⟨[(4, vi 9)], []⟩ ?_
       obtain rfl := Option.some.inj hm
       refine q_rt ?_
       exact q_rm
      ·replace hm := qB b21 hm
       refine q_sk ?_
       refine q_sq ?_
       refine q_vn [] 2 ⟨[(4, vi 0)], []⟩ ?_
       obtain rfl := Option.some.inj hm
       refine q_rt ?_
       exact q_rm
     ·rcases Bool.eq_false_or_eq_true (decide (a2.Chip < 0)) with b14 | b14
      ·replace hm := qA b14 hm
       refine q_vn [qf 3 b14] 2 ⟨[(60, vb true)], []⟩ ?_
       exact q_J (true) hm
      ·replace hm := qB b14 hm
       rcases Bool.eq_false_or_eq_true (decide (a2.Chip > 1000)) with b15 | b15
       ·replace hm := qA b15 hm
        refine q_vn [qf 3 b14, qf 8 b15] 2 ⟨[(60, vb true)], []⟩ ?_
        exact q_J (true) hm
       ·replace hm := qB b15 hm
        rcases Bool.eq_false_or_eq_true (decide (a2.Dust < 0)) with b16 | b16
        ·replace hm := qA b16 hm
         refine q_vn [qf 3 b14, qf 8 b15, qf 13 b16] 2 ⟨[(60, vb true)], []⟩ ?_
         exact q_J (true) hm
        ·replace hm := qB b16 hm
         rcases Bool.eq_false_or_eq_true (decide (a2.Dust > 1000)) with b17 | b17
         ·replace hm := qA b17 hm
          refine q_vn [qf 3 b14, qf 8 b15, qf 13 b16, qf 18 b17] 2 ⟨[(60, vb true)], []⟩ ?_
          exact q_J (true) hm
         ·replace hm := qB b17 hm
          obtain ⟨v18, h19, hm⟩ := qC hm
          refine q_vn [qf 3 b14, qf 8 b15, qf 13 b16, qf 18 b17, qk 21 [55, 57] 2 ⟨[(55, vb false), (57, vi a2.Fine)], []⟩ (AG a2.Fine v18 h19)] 2 ⟨[(60, vb (!v18))], []⟩ ?_
          exact q_J (!v18) hm
   ·rcases Bool.eq_false_or_eq_true (decide (a1.Pitch < 1)) with b8 | b8
    ·replace hm := qA b8 hm
     refine q_vu [qf 3 b8] 2 [2, 22] [(36, vb true)] [0] [] ?_
     exact q_J (true) hm
    ·replace hm := qB b8 hm
     rcases Bool.eq_false_or_eq_true (decide (a1.Pitch > 2000)) with b9 | b9
     ·replace hm := qA b9 hm
      refine q_vu [qf 3 b8, qf 8 b9] 2 [2, 22] [(36, vb true)] [0] [] ?_
      exact q_J (true) hm
     ·replace hm := qB b9 hm
      obtain ⟨v10, h11, hm⟩ := qC hm
      refine q_vu [qf 3 b8, qf 8 b9, qk 11 [31, 33] 2 ⟨[(31, vb false), (33, vi a1.Step)], []⟩ (BT a1.Step v10 h11)] 2 [2, 22] [(36, vb (!v10))] [0] [] ?_
      exact q_J (!v10) hm
 ·rcases Bool.eq_false_or_eq_true (decide (a1.Kerf < 0)) with b3 | b3
  ·replace hm := qA b3 hm
   refine q_vu [qf 3 b3] 2 [] [(22, vb true)] [] [] ?_
   exact q_J (true) hm
  ·replace hm := qB b3 hm
   rcases Bool.eq_false_or_eq_true (decide (a1.Kerf > 20)) with b4 | b4
   ·replace hm := qA b4 hm
    refine q_vu [qf 3 b3, qf 8 b4] 2 [] [(22, vb true)] [] [] ?_
    exact q_J (true) hm
   ·replace hm := qB b4 hm
    rcases Bool.eq_false_or_eq_true (decide (a1.Trim < 0)) with b5 | b5
    ·replace hm := qA b5 hm
     refine q_vu [qf 3 b3, qf 8 b4, qf 13 b5] 2 [] [(22, vb true)] [] [] ?_
     exact q_J (true) hm
    ·replace hm := qB b5 hm
     refine q_vu [qf 3 b3, qf 8 b4, qf 13 b5] 2 [] [(22, vb (decide (a1.Trim > 20)))] [] [] ?_
     exact q_J (decide (a1.Trim > 20)) hm
def UQ (r : Bool) : V := vb r
def UZ (r : Bool) : List (Nat × (Nat × O)) := []
def DX (a1 : Rect) (x2 : Int) (x7 : Bool) : St :=
 ⟨[(9, va (qK a1)), (10, vi x2), (27, vb x7)], []⟩
def KP (a1 : Rect) (x2 : Int) : St :=
 ⟨[(9, va (qK a1)), (10, vi x2)], []⟩
def DN : St :=
 ⟨[], []⟩
theorem IS (E : Env 0) (a1 : Rect) : ∀ (n : Nat) (x2 : Int) (res : Bool ⊕ Unit), zD a1 n x2 = some res → HL (kx E 29 0) (nd Try.f73 52) (yY 0 (fun o => DN) (fun v st => RetQ Try.prog Try.f73 (UQ v) (UZ v) .ret st) res) n (KP a1 x2) := by
 intro n
 induction n with
 | zero =>
  intro x2 res hm
  cases hm
 | succ n ih =>
  intro x2 res hm
  refine qU ?_
  refine q_sq ?_
  refine q_vu [] 1 [] [(11, vb (decide (x2 < 2)))] [] [] ?_
  refine q_sq ?_
  refine q_cn (decide (x2 < 2)) (fun b3 => ?_) (fun b3 => ?_)
  ·replace hm := qA b3 hm
   refine q_sk ?_
   refine q_sq ?_
   refine q_bk 1 ?_
   refine q_sq ?_
   obtain ⟨g4, hm⟩ := qQ hm
   refine q_vu [qd 0 (Dir.none) (inb_of g4)] 1 [11] [(4, vp 1 0)] [] [(1, bx 26 [ci (([a1.X.A, a1.X.B, a1.Y.A, a1.Y.B] : List Int).getD (x2.toNat * 2 + 0) 0), ci (([a1.X.A, a1.X.B, a1.Y.A, a1.Y.B] : List Int).getD (x2.toNat * 2 + 1) 0)])] ?_
   refine q_jn (ι := Bool) (fun p => DX a1 x2 p) (fun p => zY x2 (zD a1 n) p = some res) ?_ ?_
   ·rintro x7 hm
    show H _ (DX a1 x2 x7) _ _
    refine q_cn x7 (fun b8 => ?_) (fun b8 => ?_)
    ·replace hm := qA b8 hm
     refine q_sq ?_
     refine q_vn [] 2 ⟨[(2, vb false)], []⟩ ?_
     obtain rfl := Option.some.inj hm
     refine q_rt ?_
     refine zL false ?_
     exact q_rm
    ·replace hm := qB b8 hm
     refine q_sk ?_
     refine q_vu [] 2 [10, 27] [(10, vi (w64 (x2 + 1)))] [] [] ?_
     exact q_hl (KP a1 (w64 (x2 + 1))) (ih (w64 (x2 + 1)) _ hm)
   ·rcases Bool.eq_false_or_eq_true (decide ((([a1.X.A, a1.X.B, a1.Y.A, a1.Y.B] : List Int).getD (x2.toNat * 2 + 0) 0) < (-600))) with b5 | b5
    ·replace hm := qA b5 hm
     refine q_vu [qf 3 b5] 2 [4] [(27, vb true)] [1] [] ?_
     exact q_J (true) hm
    ·replace hm := qB b5 hm
     rcases Bool.eq_false_or_eq_true (decide ((([a1.X.A, a1.X.B, a1.Y.A, a1.Y.B] : List Int).getD (x2.toNat * 2 + 1) 0) > 600)) with b6 | b6
     ·replace hm := qA b6 hm
      refine q_vu [qf 3 b5, qf 8 b6] 2 [4] [(27, vb true)] [1] [] ?_
      exact q_J (true) hm
     ·replace hm := qB b6 hm
      refine q_vu [qf 3 b5, qf 8 b6] 2 [4] [(27, vb (decide ((([a1.X.A, a1.X.B, a1.Y.A, a1.Y.B] : List Int).getD (x2.toNat * 2 + 0) 0) ≥ (([a1.X.A, a1.X.B, a1.Y.A, a1.Y.B] : List Int).getD (x2.toNat * 2 + 1) 0))))] [1] [] ?_
      exact q_J (decide ((([a1.X.A, a1.X.B, a1.Y.A, a1.Y.B] : List Int).getD (x2.toNat * 2 + 0) 0) ≥ (([a1.X.A, a1.X.B, a1.Y.A, a1.Y.B] : List Int).getD (x2.toNat * 2 + 1) 0))) hm
  ·replace hm := qB b3 hm
   refine q_ex 0 ?_
   obtain rfl := Option.some.inj hm
   exact QW () (by kernel_rfl) (by kernel_rfl)
theorem LH (a1 : Rect) (r : Bool) (hm : ZJ a1 = some r) : CtX Try.prog globs 73 0 0 [.agg (qK a1)] [] (UQ r) (UZ r) := by
 unfold ZJ at hm
 refine q_E Try.f73 29 fun E => ?_
 refine q_sq ?_
 refine q_vn [] 0 ⟨[(1, vp 0 0)], [(0, bx 28 (qK a1))]⟩ ?_
 refine q_sq ?_
 refine q_sq ?_
 refine q_vn [] 1 ⟨[(9, va (qK a1)), (10, vi 0)], []⟩ ?_
 obtain ⟨u11, h10, hm⟩ := qC hm
 refine wL (nd Try.f73 52) 0 (by kernel_rfl) FUEL (fun o => DN) (fun v st => RetQ Try.prog Try.f73 (UQ v) (UZ v) .ret st) u11 (q_hl (KP a1 0) (IS E a1 FUEL 0 u11 h10)) ?_ ?_
 ·rintro v12 rfl st hr
  obtain rfl := Option.some.inj hm
  exact hr
 ·rintro o9 rfl
  replace hm : _ = some r := hm
  refine q_sq ?_
  refine q_vn [] 1 ⟨[(2, vb true)], []⟩ ?_
  obtain rfl := Option.some.inj hm
  refine q_rt ?_
  exact q_rm
set_option maxRecDepth 100000
def qCh (r : Pattern × Int) : V := vc (.fn 75 [.bptr 0 0 0, .bptr 1 0 0])
def qCl (r : Pattern × Int) : List (Nat × (Nat × O)) := [(0, bx 31 (qE r.1)), (1, bx 3 [ci r.2])]
theorem YT (a1 : Pattern) (a2 : Int) (r : Pattern × Int) (hm : wM a1 a2 = some r) : CtX Try.prog globs 57 0 0 [.agg (qE a1), .one (ci a2)] [] (qCh r) (qCl r) := by
 unfold wM at hm
 refine q_E Try.f57 6 fun E => ?_
 refine q_sq ?_
 refine q_vn [] 0 ⟨[(2, vp 0 0), (3, vp 1 0)], [(0, bx 31 (qE a1)), (1, bx 3 [ci a2])]⟩ ?_
 refine q_sq ?_
 refine q_vu [] 2 [2, 3] [(4, vc (.fn 75 [.bptr 0 0 0, .bptr 1 0 0]))] [] [] ?_
 obtain rfl := Option.some.inj hm
 refine q_rt ?_
 exact q_rm
open Go.Proofs
set_option maxHeartbeats 4000000
set_option maxRecDepth 100000
def qCy (r : Bool) : V := vb r
def qCF (r : Bool) : List (Nat × (Nat × O)) := []
def FZ (x3 : Bool) : St :=
 ⟨[(2, vb x3)], []⟩
theorem QQ (a1 : Int) (r : Bool) (hm : wH a1 = some r) : CtX Try.prog globs 58 0 0 [.one (ci a1)] [] (qCy r) (qCF r) := by
 unfold wH at hm
 refine q_E Try.f58 9 fun E => ?_
 refine q_sq ?_
 refine q_vn [] 0 ⟨[(0, vi a1)], []⟩ ?_
 refine q_jn (ι := Bool) (fun p => FZ p) (fun p => KE p = some r) ?_ ?_
 ·rintro x3 hm
  show H _ (FZ x3) _ _
  obtain rfl := Option.some.inj hm
  refine q_rt ?_
  exact q_rm
 ·rcases Bool.eq_false_or_eq_true (a1 == 2) with b2 | b2
  ·replace hm := qA b2 hm
   refine q_vn [qf 2 b2] 0 ⟨[(2, vb true)], []⟩ ?_
   exact q_J (true) hm
  ·replace hm := qB b2 hm
   refine q_vn [qf 2 b2] 0 ⟨[(2, vb (a1 == 3))], []⟩ ?_
   exact q_J (a1 == 3) hm
def qDw (r : Span) : V := va (e_Span r)
def qDa (r : Span) : List (Nat × (Nat × O)) := []
theorem SB (a1 : Rect) (a2 : Int) (r : Span) (hm : JG a1 a2 = some r) : CtX Try.prog globs 76 0 0 [.agg (qK a1), .one (ci a2)] [] (qDw r) (qDa r) := by
 unfold JG at hm
 refine q_E Try.f76 11 fun E => ?_
 refine q_sq ?_
 refine q_vn [] 0 ⟨[(1, vi a2), (2, vp 0 0), (4, vp 1 0)], [(0, bx 28 (qK a1)), (1, bx 26 [ci 0, ci 0])]⟩ ?_
 refine q_sq ?_
 refine q_sq ?_
 refine q_vu [] 2 [1] [(6, vb (a2 == 2))] [] [] ?_
 refine q_cn (a2 == 2) (fun b3 => ?_) (fun b3 => ?_)
 ·replace hm := qA b3 hm
  refine q_sq ?_
  refine q_vn [] 2 ⟨[(4, vp 1 0)], [(1, bx 26 (e_Span a1.X))]⟩ ?_
  obtain rfl := Option.some.inj hm
  refine q_rt ?_
  exact q_rm
 ·replace hm := qB b3 hm
  refine q_sk ?_
  refine q_sq ?_
  refine q_vn [] 2 ⟨[(4, vp 1 0)], [(1, bx 26 (e_Span a1.Y))]⟩ ?_
  obtain rfl := Option.some.inj hm
  refine q_rt ?_
  exact q_rm
set_option maxRecDepth 100000
def CL (r : Int) : V := vi r
def CO (r : Int) : List (Nat × (Nat × O)) := []
def VJ : St :=
 ⟨[], []⟩
def VT (x15 : Bool) : St :=
 ⟨[(46, vb x15)], []⟩
def VN (a1 : Node) (a2 : Pattern_place) (x6 : Bool) : St :=
 ⟨[(2, vp 0 0), (3, vp 1 0), (23, vb x6)], [(0, bx 59 (qX a1)), (1, bx 123 (e_Pattern_place a2))]⟩
theorem DI (a1 : Node) (a2 : Pattern_place) (r : Int) (hm : yR a1 a2 = some r) : CtX Try.prog globs 74 0 0 [.agg (qX a1), .agg (e_Pattern_place a2)] [] (CL r) (CO r) := by
 unfold yR at hm
 refine q_E Try.f74 47 fun E => ?_
 refine q_sq ?_
 refine q_vn [] 0 ⟨[(2, vp 0 0), (3, vp 1 0)], [(0, bx 59 (qX a1)), (1, bx 123 (e_Pattern_place a2))]⟩ ?_
 refine q_sq ?_
 refine q_jn (ι := Bool) (fun p => VN a1 a2 p) (fun p => wB a1 a2 p = some r) ?_ ?_
 ·rintro x6 hm
  show H _ (VN a1 a2 x6) _ _
  refine q_cn x6 (fun b7 => ?_) (fun b7 => ?_)
  ·replace hm := qA b7 hm
   refine q_sq ?_
   refine q_vn [] 2 ⟨[(4, vi 10)], []⟩ ?_
   obtain rfl := Option.some.inj hm
   refine q_rt ?_
   exact q_rm
  ·replace hm := qB b7 hm
   refine q_sk ?_
   refine q_sq ?_
   refine q_sq ?_
   refine q_vu [] 2 [23] [(26, vb (decide (a2.level > 64)))] [] [] ?_
   refine q_cn (decide (a2.level > 64)) (fun b8 => ?_) (fun b8 => ?_)
   ·replace hm := qA b8 hm
    refine q_sq ?_
    refine q_vn [] 2 ⟨[(4, vi 28)], []⟩ ?_
    obtain rfl := Option.some.inj hm
    refine q_rt ?_
    exact q_rm
   ·replace hm := qB b8 hm
    refine q_sk ?_
    refine q_jn (ι := Unit) (fun p => VJ) (fun p => yL = some r) ?_ ?_
    ·rintro _ hm
     show H _ (VJ) _ _
     refine q_sq ?_
     refine q_vn [] 3 ⟨[(4, vi 0)], []⟩ ?_
     obtain rfl := Option.some.inj hm
     refine q_rt ?_
     exact q_rm
    ·refine q_sq ?_
     obtain ⟨v9, h10, hm⟩ := qC hm
     refine q_vu [qc 2 [28] 2 (QQ a1.Kind v9 h10)] 2 [26] [(29, vb v9)] [] [] ?_
     refine q_cn v9 (fun b11 => ?_) (fun b11 => ?_)
     ·replace hm := qA b11 hm
      refine q_sq ?_
      obtain ⟨v12, h13, hm⟩ := qC hm
      refine q_vu [qc 4 [31, 33] 2 (SB a2.rect a1.Kind v12 h13)] 2 [3, 29] [(5, vp 2 0)] [1] [(2, bx 26 (e_Span v12))] ?_
      refine q_jn (ι := Bool) (fun p => VT p) (fun p => ZY p = some r) ?_ ?_
      ·rintro x15 hm
       show H _ (VT x15) _ _
       refine q_cn x15 (fun b16 => ?_) (fun b16 => ?_)
       ·replace hm := qA b16 hm
        refine q_sq ?_
        refine q_vn [] 3 ⟨[(4, vi 20)], []⟩ ?_
        obtain rfl := Option.some.inj hm
        refine q_rt ?_
        exact q_rm
       ·replace hm := qB b16 hm
        refine q_sk ?_
        exact q_J () hm
      ·rcases Bool.eq_false_or_eq_true (decide (a1.At ≤ v12.A)) with b14 | b14
       ·replace hm := qA b14 hm
        refine q_vn [qf 5 b14] 3 ⟨[(46, vb true)], []⟩ ?_
        exact q_J (true) hm
       ·replace hm := qB b14 hm
        refine q_vn [qf 5 b14] 3 ⟨[(46, vb (decide (a1.At ≥ v12.B)))], []⟩ ?_
        exact q_J (decide (a1.At ≥ v12.B)) hm
     ·replace hm := qB b11 hm
      refine q_sk ?_
      exact q_J () hm
 ·rcases Bool.eq_false_or_eq_true (decide (a1.Kind < 0)) with b3 | b3
  ·replace hm := qA b3 hm
   refine q_vu [qf 3 b3] 2 [] [(23, vb true)] [] [] ?_
   exact q_J (true) hm
  ·replace hm := qB b3 hm
   rcases Bool.eq_false_or_eq_true (decide (a1.Kind > 3)) with b4 | b4
   ·replace hm := qA b4 hm
    refine q_vu [qf 3 b3, qf 8 b4] 2 [] [(23, vb true)] [] [] ?_
    exact q_J (true) hm
   ·replace hm := qB b4 hm
    rcases Bool.eq_false_or_eq_true (a1.Kind == 0) with b5 | b5
    ·replace hm := qA b5 hm
     refine q_vu [qf 3 b3, qf 8 b4, qf 12 b5] 2 [] [(23, vb (a1.At != 0))] [] [] ?_
     exact q_J (a1.At != 0) hm
    ·replace hm := qB b5 hm
     refine q_vu [qf 3 b3, qf 8 b4, qf 12 b5] 2 [] [(23, vb false)] [] [] ?_
     exact q_J (false) hm
open Go.Proofs
set_option maxHeartbeats 4000000
set_option maxRecDepth 100000
def LX (a1 : Rect) (a2 : Int) (a3 : List Product) (r : Int) : V := vi r
def pattern_Check_1_o (a1 : Rect) (a2 : Int) (a3 : List Product) (r : Int) : List (Nat × (Nat × O)) := [(0, bx 24 [tl qD default a3])]
def BN (a3 : List Product) (x18 : Bool) : St :=
 ⟨[(49, vb x18)], [(0, bx 24 [tl qD default a3])]⟩
def DJ (a1 : Rect) (a2 : Int) (a3 : List Product) (x5 : Bool) : St :=
 ⟨[(1, vi a2), (2, vp 0 0), (3, vp 1 0), (17, vb x5)], [(0, bx 24 [tl qD default a3]), (1, bx 28 (qK a1))]⟩
theorem qAR (a1 : Rect) (a2 : Int) (a3 : List Product) (r : Int) (hm : JT a1 a2 a3 = some r) : CtX Try.prog globs 71 1 1 [.agg (qK a1), .one (ci a2), .one (.bptr 0 0 0)] [(0, bx 24 [tl qD default a3])] (LX a1 a2 a3 r) (pattern_Check_1_o a1 a2 a3 r) := by
 unfold JT at hm
 refine q_E Try.f71 50 fun E => ?_
 refine q_sq ?_
 refine q_vn [] 1 ⟨[(1, vi a2), (2, vp 0 0), (3, vp 1 0)], [(0, bx 24 [tl qD default a3]), (1, bx 28 (qK a1))]⟩ ?_
 refine q_sq ?_
 refine q_jn (ι := Bool) (fun p => DJ a1 a2 a3 p) (fun p => jV a1 a2 a3 p = some r) ?_ ?_
 ·rintro x5 hm
  show H _ (DJ a1 a2 a3 x5) _ _
  refine q_cn x5 (fun b6 => ?_) (fun b6 => ?_)
  ·replace hm := qA b6 hm
   refine q_sq ?_
   refine q_vu [] 2 [1, 2, 3, 17] [(5, vi 8)] [1] [] ?_
   obtain rfl := Option.some.inj hm
   refine q_rt ?_
   exact q_rm
  ·replace hm := qB b6 hm
   refine q_sk ?_
   refine q_sq ?_
   obtain ⟨g7, hm⟩ := qQ hm
   obtain ⟨v8, h9, hm⟩ := qC hm
   refine q_vu [qd 2 (Dir.none) (inb_of g7), qc 4 [22] 2 (GG (a3.getD a2.toNat default) v8 h9)] 2 [1, 2, 17] [(6, vi v8.1), (7, vi v8.2)] [] [] ?_
   refine q_sq ?_
   obtain ⟨v10, h11, hm⟩ := qC hm
   obtain ⟨v12, h13, hm⟩ := qC hm
   refine q_du [qc 2 [27] 2 (PM a1.X v10 h11), qc 5 [30] 2 (PM a1.Y v12 h13)] [0, 1, 3, 0, 8, 31, 63, 127] 2 [3] [(8, vi v10), (9, vi v12)] [1] [] ?_
   refine q_sq ?_
   refine q_jn (ι := Bool) (fun p => BN a3 p) (fun p => wR p = some r) ?_ ?_
   ·rintro x18 hm
    show H _ (BN a3 x18) _ _
    refine q_cn x18 (fun b19 => ?_) (fun b19 => ?_)
    ·replace hm := qA b19 hm
     refine q_sq ?_
     refine q_vu [] 2 [49] [(5, vi 20)] [] [] ?_
     obtain rfl := Option.some.inj hm
     refine q_rt ?_
     exact q_rm
    ·replace hm := qB b19 hm
     refine q_sk ?_
     refine q_sq ?_
     refine q_vu [] 2 [49] [(5, vi 0)] [] [] ?_
     obtain rfl := Option.some.inj hm
     refine q_rt ?_
     exact q_rm
   ·rcases Bool.eq_false_or_eq_true (v10 != v8.1) with b14 | b14
    ·replace hm := qA b14 hm
     rcases Bool.eq_false_or_eq_true (v10 != v8.2) with b15 | b15
     ·replace hm := qA b15 hm
      refine q_vu [qf 3 b14, qf 12 b15] 2 [6, 7, 8, 9] [(49, vb true)] [] [] ?_
      exact q_J (true) hm
     ·replace hm := qB b15 hm
      refine q_vu [qf 3 b14, qf 12 b15] 2 [6, 7, 8, 9] [(49, vb (v12 != v8.1))] [] [] ?_
      exact q_J (v12 != v8.1) hm
    ·replace hm := qB b14 hm
     rcases Bool.eq_false_or_eq_true (v12 != v8.2) with b16 | b16
     ·replace hm := qA b16 hm
      rcases Bool.eq_false_or_eq_true (v10 != v8.2) with b17 | b17
      ·replace hm := qA b17 hm
       refine q_vu [qf 3 b14, qf 8 b16, qf 12 b17] 2 [6, 7, 8, 9] [(49, vb true)] [] [] ?_
       exact q_J (true) hm
      ·replace hm := qB b17 hm
       refine q_vu [qf 3 b14, qf 8 b16, qf 12 b17] 2 [6, 7, 8, 9] [(49, vb (v12 != v8.1))] [] [] ?_
       exact q_J (v12 != v8.1) hm
     ·replace hm := qB b16 hm
      refine q_vu [qf 3 b14, qf 8 b16] 2 [6, 7, 8, 9] [(49, vb false)] [] [] ?_
      exact q_J (false) hm
 ·rcases Bool.eq_false_or_eq_true (decide (a2 < 0)) with b4 | b4
  ·replace hm := qA b4 hm
   refine q_vu [qf 2 b4] 2 [] [(17, vb true)] [] [] ?_
   exact q_J (true) hm
  ·replace hm := qB b4 hm
   refine q_vu [qf 2 b4] 2 [] [(17, vb (decide (a2 ≥ ((a3.length : Nat) : Int))))] [] [] ?_
   exact q_J (decide (a2 ≥ ((a3.length : Nat) : Int))) hm
end Saw
end Go.SL
