import Derived.Test.YtjobdnkaonbgnaaGreatEBase
import Derived.Test.YtjobdnkaonbgnaaGreatELlaw22Work
set_option linter.unusedVariables false
set_option linter.unusedSimpArgs false
namespace Go.SL
namespace Saw
open Go.Proofs
set_option maxHeartbeats 4000000
set_option maxRecDepth 100000
def UV (r : Bool) : V := vb r
def UQ (r : Bool) : List (Nat × (Nat × O)) := []
def HO (a1 : Law22_Given) (x10 : Int) : St :=
 ⟨[(1, vp 0 0), (3, vi x10)], [(0, bx 37 (qX a1))]⟩
def qBQ (a1 : Law22_Given) : St :=
 ⟨[(1, vp 0 0)], [(0, bx 37 (qX a1))]⟩
def qA7 (a1 : Law22_Given) (x18 : Int) (x23 : Bool) : St :=
 ⟨[(1, vp 0 0), (4, vi x18), (83, vb x23)], [(0, bx 37 (qX a1))]⟩
def MX (a1 : Law22_Given) (x18 : Int) : St :=
 ⟨[(1, vp 0 0), (4, vi x18)], [(0, bx 37 (qX a1))]⟩
def qBo : St :=
 ⟨[], []⟩
def qBg (a1 : Law22_Given) (x8 : Bool) : St :=
 ⟨[(1, vp 0 0), (32, vb x8)], [(0, bx 37 (qX a1))]⟩
theorem qF1 (E : Env 0) (a1 : Law22_Given) : ∀ (n : Nat) (x10 : Int) (res : Bool ⊕ Unit), YU a1 n x10 = some res → HL (kx E 84 0) (nd Tryz.f5 116) (wN 0 (fun o => qBQ a1) (fun v st => RetQ Tryz.prog Tryz.f5 (UV v) (UQ v) .ret st) res) n (HO a1 x10) := by
 intro n
 induction n with
 | zero =>
  intro x10 res hm
  cases hm
 | succ n ih =>
  intro x10 res hm
  refine qQ ?_
  refine q_sq ?_
  refine s_vu [] 1 [] [(37, vb (decide (x10 < ((a1.Solid.length : Nat) : Int))))] [] [] ?_
  refine q_cn (decide (x10 < ((a1.Solid.length : Nat) : Int))) (fun b11 => ?_) (fun b11 => ?_)
  ·replace hm := qB b11 hm
   refine q_sk ?_
   refine q_sq ?_
   refine q_bk 1 ?_
   obtain ⟨g12, hm⟩ := qM hm
   refine s_vu [qd 3 (Dir.none) (inb_of g12)] 1 [37] [(48, vb (decide ((((((a1.Solid.getD x10.toNat default).Sec).Rows).length : Nat) : Int) > 130)))] [] [] ?_
   refine q_cn (decide ((((((a1.Solid.getD x10.toNat default).Sec).Rows).length : Nat) : Int) > 130)) (fun b13 => ?_) (fun b13 => ?_)
   ·replace hm := qB b13 hm
    refine s_vn [] 1 ⟨[(2, vb false)], []⟩ ?_
    obtain rfl := oi hm
    refine q_rt ?_
    refine zB false ?_
    exact q_rm
   ·replace hm := qC b13 hm
    refine q_sk ?_
    refine q_vu [] 1 [3, 48] [(3, vi (w64 (x10 + 1)))] [] [] ?_
    exact q_hl (HO a1 (w64 (x10 + 1))) (ih (w64 (x10 + 1)) _ hm)
  ·replace hm := qC b11 hm
   refine q_ex 0 ?_
   obtain rfl := oi hm
   exact wR () (by kernel_rfl) (by kernel_rfl)
theorem qFX (E : Env 0) (a1 : Law22_Given) : ∀ (n : Nat) (x18 : Int) (res : Bool ⊕ Unit), yA a1 n x18 = some res → HL (kx E 84 0) (nd Tryz.f5 244) (wN 2 (fun o => qBo) (fun v st => RetQ Tryz.prog Tryz.f5 (UV v) (UQ v) .ret st) res) n (MX a1 x18) := by
 intro n
 induction n with
 | zero =>
  intro x18 res hm
  cases hm
 | succ n ih =>
  intro x18 res hm
  refine qQ ?_
  refine q_sq ?_
  refine s_vu [] 1 [] [(53, vb (decide (x18 < ((a1.Products.length : Nat) : Int))))] [] [] ?_
  refine q_cn (decide (x18 < ((a1.Products.length : Nat) : Int))) (fun b19 => ?_) (fun b19 => ?_)
  ·replace hm := qB b19 hm
   refine q_sk ?_
   refine q_sq ?_
   refine q_bk 3 ?_
   refine q_jn (ι := Bool) (fun p => qA7 a1 x18 p) (fun p => TF x18 (yA a1 n) p = some res) ?_ ?_
   ·rintro x23 hm
    show H _ (qA7 a1 x18 x23) _ _
    refine q_cn x23 (fun b24 => ?_) (fun b24 => ?_)
    ·replace hm := qB b24 hm
     refine s_vn [] 1 ⟨[(2, vb false)], []⟩ ?_
     obtain rfl := oi hm
     refine q_rt ?_
     refine zB false ?_
     exact q_rm
    ·replace hm := qC b24 hm
     refine q_sk ?_
     refine q_vu [] 1 [4, 83] [(4, vi (w64 (x18 + 1)))] [] [] ?_
     exact q_hl (MX a1 (w64 (x18 + 1))) (ih (w64 (x18 + 1)) _ hm)
   ·obtain ⟨g20, hm⟩ := qM hm
    rcases Bool.eq_false_or_eq_true (decide (((((a1.Products.getD x18.toNat default).Lengths).length : Nat) : Int) > 10)) with b21 | b21
    ·replace hm := qB b21 hm
     refine q_vu [qd 3 (Dir.none) (inb_of g20), qf 8 b21] 1 [53] [(83, vb true)] [] [] ?_
     exact q_J (true) hm
    ·replace hm := qC b21 hm
     rcases Bool.eq_false_or_eq_true (decide (((((a1.Products.getD x18.toNat default).Prices).length : Nat) : Int) > 10)) with b22 | b22
     ·replace hm := qB b22 hm
      refine q_vu [qd 3 (Dir.none) (inb_of g20), qf 8 b21, qd 12 (Dir.none) (inb_of g20), qf 18 b22] 1 [53] [(83, vb true)] [] [] ?_
      exact q_J (true) hm
     ·replace hm := qC b22 hm
      refine q_vu [qd 3 (Dir.none) (inb_of g20), qf 8 b21, qd 12 (Dir.none) (inb_of g20), qf 18 b22, qd 22 (Dir.none) (inb_of g20)] 1 [53] [(83, vb (decide (((((a1.Products.getD x18.toNat default).Name).size : Nat) : Int) > 100)))] [] [] ?_
      exact q_J (decide (((((a1.Products.getD x18.toNat default).Name).size : Nat) : Int) > 100)) hm
  ·replace hm := qC b19 hm
   refine q_ex 2 ?_
   obtain rfl := oi hm
   exact wR () (by kernel_rfl) (by kernel_rfl)
theorem qJ5 (a1 : Law22_Given) (r : Bool) (hm : LO a1 = some r) : CtX Tryz.prog globs 5 0 0 [.agg (qX a1)] [] (UV r) (UQ r) := by
 unfold LO at hm
 refine q_E Tryz.f5 84 fun E => ?_
 refine s_vn [] 0 ⟨[(1, vp 0 0)], [(0, bx 37 (qX a1))]⟩ ?_
 refine q_sq ?_
 refine q_jn (ι := Bool) (fun p => qBg a1 p) (fun p => yL a1 p = some r) ?_ ?_
 ·rintro x8 hm
  show H _ (qBg a1 x8) _ _
  refine q_cn x8 (fun b9 => ?_) (fun b9 => ?_)
  ·replace hm := qB b9 hm
   refine s_vn [] 1 ⟨[(2, vb false)], []⟩ ?_
   obtain rfl := oi hm
   refine q_rt ?_
   exact q_rm
  ·replace hm := qC b9 hm
   refine q_sk ?_
   refine q_sq ?_
   refine s_vu [] 1 [32] [(3, vi 0)] [] [] ?_
   obtain ⟨u16, h15, hm⟩ := qD hm
   refine zP (nd Tryz.f5 116) 0 (by kernel_rfl) FUEL (fun o => qBQ a1) (fun v st => RetQ Tryz.prog Tryz.f5 (UV v) (UQ v) .ret st) u16 (q_hl (HO a1 0) (qF1 E a1 FUEL 0 u16 h15)) ?_ ?_
   ·rintro v17 rfl st hr
    obtain rfl := oi hm
    exact hr
   ·rintro o14 rfl
    replace hm : _ = some r := hm
    refine q_sq ?_
    refine s_vu [] 1 [] [(4, vi 0)] [] [] ?_
    obtain ⟨u27, h26, hm⟩ := qD hm
    refine zP (nd Tryz.f5 244) 2 (by kernel_rfl) FUEL (fun o => qBo) (fun v st => RetQ Tryz.prog Tryz.f5 (UV v) (UQ v) .ret st) u27 (q_hl (MX a1 0) (qFX E a1 FUEL 0 u27 h26)) ?_ ?_
    ·rintro v28 rfl st hr
     obtain rfl := oi hm
     exact hr
    ·rintro o25 rfl
     replace hm : _ = some r := hm
     refine s_vn [] 1 ⟨[(2, vb true)], []⟩ ?_
     obtain rfl := oi hm
     refine q_rt ?_
     exact q_rm
 ·rcases Bool.eq_false_or_eq_true (decide (((a1.Solid.length : Nat) : Int) > 30)) with b2 | b2
  ·replace hm := qB b2 hm
   refine q_vu [qf 4 b2] 1 [] [(32, vb true)] [] [] ?_
   exact q_J (true) hm
  ·replace hm := qC b2 hm
   rcases Bool.eq_false_or_eq_true (decide (((a1.Defects.length : Nat) : Int) > 70)) with b3 | b3
   ·replace hm := qB b3 hm
    refine q_vu [qf 4 b2, qf 10 b3] 1 [] [(32, vb true)] [] [] ?_
    exact q_J (true) hm
   ·replace hm := qC b3 hm
    rcases Bool.eq_false_or_eq_true (decide (((a1.Products.length : Nat) : Int) > 20)) with b4 | b4
    ·replace hm := qB b4 hm
     refine q_vu [qf 4 b2, qf 10 b3, qf 16 b4] 1 [] [(32, vb true)] [] [] ?_
     exact q_J (true) hm
    ·replace hm := qC b4 hm
     rcases Bool.eq_false_or_eq_true (decide (((a1.Pattern.Nodes.length : Nat) : Int) > 140)) with b5 | b5
     ·replace hm := qB b5 hm
      refine q_vu [qf 4 b2, qf 10 b3, qf 16 b4, qf 23 b5] 1 [] [(32, vb true)] [] [] ?_
      exact q_J (true) hm
     ·replace hm := qC b5 hm
      obtain ⟨v6, h7, hm⟩ := qD hm
      refine q_vu [qf 4 b2, qf 10 b3, qf 16 b4, qf 23 b5, qk 25 [28, 29] 1 ⟨[(28, vb false), (29, va (qX a1))], []⟩ (qLe a1 v6 h7)] 1 [] [(32, vb (decide (v6 > 200000)))] [] [] ?_
      exact q_J (decide (v6 > 200000)) hm
end Saw
end Go.SL
