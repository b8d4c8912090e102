import Derived.Test.YtjobdnkaonbgnaaEBase
import Derived.Test.YtjobdnkaonbgnaaEFa3
import Derived.Test.YtjobdnkaonbgnaaEFa2
set_option linter.unusedVariables false
set_option linter.unusedSimpArgs false
namespace Go.SL
namespace Saw
open Go.Proofs
set_option maxHeartbeats 4000000
set_option maxRecDepth 100000
def wA (r : Int) : V := vi r
def zZ (r : Int) : List (Nat × (Nat × O)) := []
def JY (a1 : Product) (x18 : Int) (x26 : Bool) : St :=
 ⟨[(1, vp 0 0), (70, vc (tl qL default a1.Lengths)), (71, vi ((a1.Lengths.length : Nat) : Int)), (72, vi x18), (94, vb x26)], [(0, bx 71 (qE a1))]⟩
def YJ (a1 : Product) (x18 : Int) (x22 : Bool) : St :=
 ⟨[(1, vp 0 0), (5, vi x18), (6, vi (a1.Lengths.getD x18.toNat default)), (70, vc (tl qL default a1.Lengths)), (71, vi ((a1.Lengths.length : Nat) : Int)), (72, vi x18), (82, vb x22)], [(0, bx 71 (qE a1))]⟩
def jX (a1 : Product) (x18 : Int) : St :=
 ⟨[(1, vp 0 0), (70, vc (tl qL default a1.Lengths)), (71, vi ((a1.Lengths.length : Nat) : Int)), (72, vi x18)], [(0, bx 71 (qE a1))]⟩
def YG (a1 : Product) : St :=
 ⟨[(1, vp 0 0)], [(0, bx 71 (qE a1))]⟩
def YK (a1 : Product) (x32 : Int) (x36 : Bool) : St :=
 ⟨[(97, vc (tl qL default a1.Prices)), (98, vi ((a1.Prices.length : Nat) : Int)), (99, vi x32), (108, vb x36)], []⟩
def jZ (a1 : Product) (x32 : Int) : St :=
 ⟨[(97, vc (tl qL default a1.Prices)), (98, vi ((a1.Prices.length : Nat) : Int)), (99, vi x32)], []⟩
def YA : St :=
 ⟨[], []⟩
def YF (a1 : Product) (x10 : Bool) : St :=
 ⟨[(1, vp 0 0), (46, vb x10)], [(0, bx 71 (qE a1))]⟩
def JT (a1 : Product) (x5 : Bool) : St :=
 ⟨[(1, vp 0 0), (28, vb x5)], [(0, bx 71 (qE a1))]⟩
theorem DW (E : Env 0) (a1 : Product) : ∀ (n : Nat) (x18 : Int) (res : Int ⊕ Unit), zF a1 n x18 = some res → HL (kx E 110 0) (nd Try.f70 4084) (jD 0 (fun o => YG a1) (fun v st => RetQ Try.prog Try.f70 (wA v) (zZ v) .ret st) res) n (jX a1 x18) := by
 intro n
 induction n with
 | zero =>
  intro x18 res hm
  cases hm
 | succ n ih =>
  intro x18 res hm
  refine qV ?_
  refine q_sq ?_
  refine q_vu [] 1 [] [(73, vb (decide (x18 < ((a1.Lengths.length : Nat) : Int))))] [] [] ?_
  refine q_sq ?_
  refine q_cn (decide (x18 < ((a1.Lengths.length : Nat) : Int))) (fun b19 => ?_) (fun b19 => ?_)
  ·replace hm := qA b19 hm
   refine q_sk ?_
   refine q_sq ?_
   refine q_bk 1 ?_
   refine q_sq ?_
   obtain ⟨g20, hm⟩ := qO hm
   refine q_vu [qd 1 (Dir.none) (inb_of g20)] 1 [73] [(5, vi x18), (6, vi (a1.Lengths.getD x18.toNat default))] [] [] ?_
   refine q_sq ?_
   refine q_jn (ι := Bool) (fun p => YJ a1 x18 p) (fun p => yT a1 x18 (zF a1 n) p = some res) ?_ ?_
   ·rintro x22 hm
    show H _ (YJ a1 x18 x22) _ _
    refine q_cn x22 (fun b23 => ?_) (fun b23 => ?_)
    ·replace hm := qA b23 hm
     refine q_sq ?_
     refine q_vn [] 1 ⟨[(2, vi 9)], []⟩ ?_
     obtain rfl := Option.some.inj hm
     refine q_rt ?_
     refine zB 9 ?_
     exact q_rm
    ·replace hm := qB b23 hm
     refine q_sk ?_
     refine q_jn (ι := Bool) (fun p => JY a1 x18 p) (fun p => yU x18 (zF a1 n) p = some res) ?_ ?_
     ·rintro x26 hm
      show H _ (JY a1 x18 x26) _ _
      refine q_cn x26 (fun b27 => ?_) (fun b27 => ?_)
      ·replace hm := qA b27 hm
       refine q_sq ?_
       refine q_vn [] 1 ⟨[(2, vi 11)], []⟩ ?_
       obtain rfl := Option.some.inj hm
       refine q_rt ?_
       refine zB 11 ?_
       exact q_rm
      ·replace hm := qB b27 hm
       refine q_sk ?_
       refine q_vu [] 1 [72, 94] [(72, vi (w64 (x18 + 1)))] [] [] ?_
       exact q_hl (jX a1 (w64 (x18 + 1))) (ih (w64 (x18 + 1)) _ hm)
     ·rcases Bool.eq_false_or_eq_true (decide (x18 > 0)) with b24 | b24
      ·replace hm := qA b24 hm
       obtain ⟨g25, hm⟩ := qO hm
       refine q_vu [qf 2 b24, qd 8 (Dir.none) (inb_of g25)] 1 [5, 6, 82] [(94, vb (decide ((a1.Lengths.getD x18.toNat default) ≤ (a1.Lengths.getD (w64 (x18 - 1)).toNat default))))] [] [] ?_
       exact q_J (decide ((a1.Lengths.getD x18.toNat default) ≤ (a1.Lengths.getD (w64 (x18 - 1)).toNat default))) hm
      ·replace hm := qB b24 hm
       refine q_vu [qf 2 b24] 1 [5, 6, 82] [(94, vb false)] [] [] ?_
       exact q_J (false) hm
   ·rcases Bool.eq_false_or_eq_true (decide ((a1.Lengths.getD x18.toNat default) < 100)) with b21 | b21
    ·replace hm := qA b21 hm
     refine q_vu [qf 2 b21] 1 [] [(82, vb true)] [] [] ?_
     exact q_J (true) hm
    ·replace hm := qB b21 hm
     refine q_vu [qf 2 b21] 1 [] [(82, vb (decide ((a1.Lengths.getD x18.toNat default) > 20000)))] [] [] ?_
     exact q_J (decide ((a1.Lengths.getD x18.toNat default) > 20000)) hm
  ·replace hm := qB b19 hm
   refine q_ex 0 ?_
   obtain rfl := Option.some.inj hm
   exact jJ () (by kernel_rfl) (by kernel_rfl)
theorem DZ (E : Env 0) (a1 : Product) : ∀ (n : Nat) (x32 : Int) (res : Int ⊕ Unit), zR a1 n x32 = some res → HL (kx E 110 0) (nd Try.f70 8180) (jD 2 (fun o => YA) (fun v st => RetQ Try.prog Try.f70 (wA v) (zZ v) .ret st) res) n (jZ a1 x32) := by
 intro n
 induction n with
 | zero =>
  intro x32 res hm
  cases hm
 | succ n ih =>
  intro x32 res hm
  refine qV ?_
  refine q_sq ?_
  refine q_vu [] 1 [] [(100, vb (decide (x32 < ((a1.Prices.length : Nat) : Int))))] [] [] ?_
  refine q_sq ?_
  refine q_cn (decide (x32 < ((a1.Prices.length : Nat) : Int))) (fun b33 => ?_) (fun b33 => ?_)
  ·replace hm := qA b33 hm
   refine q_sk ?_
   refine q_sq ?_
   refine q_bk 3 ?_
   refine q_sq ?_
   obtain ⟨g34, hm⟩ := qO hm
   refine q_vu [qd 0 (Dir.none) (inb_of g34)] 1 [100] [(8, vi (a1.Prices.getD x32.toNat default))] [] [] ?_
   refine q_jn (ι := Bool) (fun p => YK a1 x32 p) (fun p => yV x32 (zR a1 n) p = some res) ?_ ?_
   ·rintro x36 hm
    show H _ (YK a1 x32 x36) _ _
    refine q_cn x36 (fun b37 => ?_) (fun b37 => ?_)
    ·replace hm := qA b37 hm
     refine q_sq ?_
     refine q_vn [] 1 ⟨[(2, vi 9)], []⟩ ?_
     obtain rfl := Option.some.inj hm
     refine q_rt ?_
     refine zB 9 ?_
     exact q_rm
    ·replace hm := qB b37 hm
     refine q_sk ?_
     refine q_vu [] 1 [99, 108] [(99, vi (w64 (x32 + 1)))] [] [] ?_
     exact q_hl (jZ a1 (w64 (x32 + 1))) (ih (w64 (x32 + 1)) _ hm)
   ·rcases Bool.eq_false_or_eq_true (decide ((a1.Prices.getD x32.toNat default) < 0)) with b35 | b35
    ·replace hm := qA b35 hm
     refine q_vu [qf 2 b35] 1 [8] [(108, vb true)] [] [] ?_
     exact q_J (true) hm
    ·replace hm := qB b35 hm
     refine q_vu [qf 2 b35] 1 [8] [(108, vb (decide ((a1.Prices.getD x32.toNat default) > 1000000)))] [] [] ?_
     exact q_J (decide ((a1.Prices.getD x32.toNat default) > 1000000)) hm
  ·replace hm := qB b33 hm
   refine q_ex 2 ?_
   obtain rfl := Option.some.inj hm
   exact jJ () (by kernel_rfl) (by kernel_rfl)
theorem LC (a1 : Product) (r : Int) (hm : WN a1 = some r) : CtX Try.prog globs 70 0 0 [.agg (qE a1)] [] (wA r) (zZ r) := by
 unfold WN at hm
 refine q_E Try.f70 110 fun E => ?_
 refine q_sq ?_
 refine q_vn [] 0 ⟨[(1, vp 0 0)], [(0, bx 71 (qE a1))]⟩ ?_
 refine q_sq ?_
 refine q_jn (ι := Bool) (fun p => JT a1 p) (fun p => zQ a1 p = some r) ?_ ?_
 ·rintro x5 hm
  show H _ (JT a1 x5) _ _
  refine q_cn x5 (fun b6 => ?_) (fun b6 => ?_)
  ·replace hm := qA b6 hm
   refine q_sq ?_
   refine q_vn [] 1 ⟨[(2, vi 9)], []⟩ ?_
   obtain rfl := Option.some.inj hm
   refine q_rt ?_
   exact q_rm
  ·replace hm := qB b6 hm
   refine q_sk ?_
   refine q_sq ?_
   refine q_jn (ι := Bool) (fun p => YF a1 p) (fun p => zP a1 p = some r) ?_ ?_
   ·rintro x10 hm
    show H _ (YF a1 x10) _ _
    refine q_cn x10 (fun b11 => ?_) (fun b11 => ?_)
    ·replace hm := qA b11 hm
     refine q_sq ?_
     refine q_vn [] 1 ⟨[(2, vi 9)], []⟩ ?_
     obtain rfl := Option.some.inj hm
     refine q_rt ?_
     exact q_rm
    ·replace hm := qB b11 hm
     refine q_sk ?_
     refine q_sq ?_
     refine q_sq ?_
     obtain ⟨v12, h13, hm⟩ := qC hm
     refine q_vu [qc 1 [48] 1 (RA a1 v12 h13)] 1 [46] [(4, vi v12.2)] [] [] ?_
     refine q_sq ?_
     refine q_vu [] 1 [4] [(53, vb (decide (v12.2 > 600)))] [] [] ?_
     refine q_cn (decide (v12.2 > 600)) (fun b14 => ?_) (fun b14 => ?_)
     ·replace hm := qA b14 hm
      refine q_sq ?_
      refine q_vn [] 1 ⟨[(2, vi 9)], []⟩ ?_
      obtain rfl := Option.some.inj hm
      refine q_rt ?_
      exact q_rm
     ·replace hm := qB b14 hm
      refine q_sk ?_
      refine q_sq ?_
      refine q_sq ?_
      refine q_vu [] 1 [53] [(57, vb (((a1.Lengths.length : Nat) : Int) == 0))] [] [] ?_
      refine q_cn (((a1.Lengths.length : Nat) : Int) == 0) (fun b15 => ?_) (fun b15 => ?_)
      ·replace hm := qA b15 hm
       refine q_sq ?_
       refine q_vn [] 1 ⟨[(2, vi 3)], []⟩ ?_
       obtain rfl := Option.some.inj hm
       refine q_rt ?_
       exact q_rm
      ·replace hm := qB b15 hm
       refine q_sk ?_
       refine q_sq ?_
       refine q_sq ?_
       refine q_vu [] 1 [57] [(61, vb (decide (((a1.Lengths.length : Nat) : Int) > 8)))] [] [] ?_
       refine q_cn (decide (((a1.Lengths.length : Nat) : Int) > 8)) (fun b16 => ?_) (fun b16 => ?_)
       ·replace hm := qA b16 hm
        refine q_sq ?_
        refine q_vn [] 1 ⟨[(2, vi 4)], []⟩ ?_
        obtain rfl := Option.some.inj hm
        refine q_rt ?_
        exact q_rm
       ·replace hm := qB b16 hm
        refine q_sk ?_
        refine q_sq ?_
        refine q_sq ?_
        refine q_vu [] 1 [61] [(68, vb (((a1.Prices.length : Nat) : Int) != ((a1.Lengths.length : Nat) : Int)))] [] [] ?_
        refine q_cn (((a1.Prices.length : Nat) : Int) != ((a1.Lengths.length : Nat) : Int)) (fun b17 => ?_) (fun b17 => ?_)
        ·replace hm := qA b17 hm
         refine q_sq ?_
         refine q_vn [] 1 ⟨[(2, vi 19)], []⟩ ?_
         obtain rfl := Option.some.inj hm
         refine q_rt ?_
         exact q_rm
        ·replace hm := qB b17 hm
         refine q_sk ?_
         refine q_sq ?_
         refine q_sq ?_
         refine q_vu [] 1 [68] [(70, vc (tl qL default a1.Lengths)), (71, vi ((a1.Lengths.length : Nat) : Int)), (72, vi 0)] [] [] ?_
         obtain ⟨u30, h29, hm⟩ := qC hm
         refine zI (nd Try.f70 4084) 0 (by kernel_rfl) FUEL (fun o => YG a1) (fun v st => RetQ Try.prog Try.f70 (wA v) (zZ v) .ret st) u30 (q_hl (jX a1 0) (DW E a1 FUEL 0 u30 h29)) ?_ ?_
         ·rintro v31 rfl st hr
          obtain rfl := Option.some.inj hm
          exact hr
         ·rintro o28 rfl
          replace hm : _ = some r := hm
          refine q_sq ?_
          refine q_sq ?_
          refine q_vn [] 1 ⟨[(97, vc (tl qL default a1.Prices)), (98, vi ((a1.Prices.length : Nat) : Int)), (99, vi 0)], []⟩ ?_
          obtain ⟨u40, h39, hm⟩ := qC hm
          refine zI (nd Try.f70 8180) 2 (by kernel_rfl) FUEL (fun o => YA) (fun v st => RetQ Try.prog Try.f70 (wA v) (zZ v) .ret st) u40 (q_hl (jZ a1 0) (DZ E a1 FUEL 0 u40 h39)) ?_ ?_
          ·rintro v41 rfl st hr
           obtain rfl := Option.some.inj hm
           exact hr
          ·rintro o38 rfl
           replace hm : _ = some r := hm
           refine q_sq ?_
           refine q_vn [] 1 ⟨[(2, vi 0)], []⟩ ?_
           obtain rfl := Option.some.inj hm
           refine q_rt ?_
           exact q_rm
   ·rcases Bool.eq_false_or_eq_true (decide (a1.Allow < 0)) with b7 | b7
    ·replace hm := qA b7 hm
     refine q_vu [qf 3 b7] 1 [28] [(46, vb true)] [] [] ?_
     exact q_J (true) hm
    ·replace hm := qB b7 hm
     rcases Bool.eq_false_or_eq_true (decide (a1.Allow > 200)) with b8 | b8
     ·replace hm := qA b8 hm
      refine q_vu [qf 3 b7, qf 8 b8] 1 [28] [(46, vb true)] [] [] ?_
      exact q_J (true) hm
     ·replace hm := qB b8 hm
      rcases Bool.eq_false_or_eq_true (decide (a1.Wane < 0)) with b9 | b9
      ·replace hm := qA b9 hm
       refine q_vu [qf 3 b7, qf 8 b8, qf 13 b9] 1 [28] [(46, vb true)] [] [] ?_
       exact q_J (true) hm
      ·replace hm := qB b9 hm
       refine q_vu [qf 3 b7, qf 8 b8, qf 13 b9] 1 [28] [(46, vb (decide (a1.Wane > 1000)))] [] [] ?_
       exact q_J (decide (a1.Wane > 1000)) hm
 ·rcases Bool.eq_false_or_eq_true (decide (a1.Thick < 5)) with b2 | b2
  ·replace hm := qA b2 hm
   refine q_vu [qf 3 b2] 1 [] [(28, vb true)] [] [] ?_
   exact q_J (true) hm
  ·replace hm := qB b2 hm
   rcases Bool.eq_false_or_eq_true (decide (a1.Thick > 300)) with b3 | b3
   ·replace hm := qA b3 hm
    refine q_vu [qf 3 b2, qf 8 b3] 1 [] [(28, vb true)] [] [] ?_
    exact q_J (true) hm
   ·replace hm := qB b3 hm
    rcases Bool.eq_false_or_eq_true (decide (a1.Width < a1.Thick)) with b4 | b4
    ·replace hm := qA b4 hm
     refine q_vu [qf 3 b2, qf 8 b3, qf 15 b4] 1 [] [(28, vb true)] [] [] ?_
     exact q_J (true) hm
    ·replace hm := qB b4 hm
     refine q_vu [qf 3 b2, qf 8 b3, qf 15 b4] 1 [] [(28, vb (decide (a1.Width > 600)))] [] [] ?_
     exact q_J (decide (a1.Width > 600)) hm
def QF (r : Int) : V := vi r
def wS (r : Int) : List (Nat × (Nat × O)) := []
theorem LP (r : Int) : XE (wS r) := by
 intro i k o h
 unfold wS at h
 cases h
def XJ (a1 : List Product) (x3 : Int) : St :=
 ⟨[(0, vc (tl qE default a1)), (11, vc (tl qE default a1)), (12, vi ((a1.length : Nat) : Int)), (13, vi x3)], []⟩
def GW : St :=
 ⟨[], []⟩
theorem EK (E : Env 0) (a1 : List Product) : ∀ (n : Nat) (x3 : Int) (res : Int ⊕ Unit), PZ a1 n x3 = some res → HL (kx E 38 0) (nd Try.f52 116) (jD 0 (fun o => GW) (fun v st => RetQ Try.prog Try.f52 (QF v) (wS v) .ret st) res) n (XJ a1 x3) := by
 intro n
 induction n with
 | zero =>
  intro x3 res hm
  cases hm
 | succ n ih =>
  intro x3 res hm
  refine qV ?_
  refine q_sq ?_
  refine q_vu [] 0 [] [(14, vb (decide (x3 < ((a1.length : Nat) : Int))))] [] [] ?_
  refine q_sq ?_
  refine q_cn (decide (x3 < ((a1.length : Nat) : Int))) (fun b4 => ?_) (fun b4 => ?_)
  ·replace hm := qA b4 hm
   refine q_sk ?_
   refine q_sq ?_
   refine q_bk 1 ?_
   refine q_sq ?_
   obtain ⟨g5, hm⟩ := qO hm
   refine q_vu [qd 1 (Dir.none) (inb_of g5)] 0 [14] [(3, vi x3), (4, vp 0 0)] [] [(0, bx 71 [cs ((a1.getD x3.toNat default).Name), ci ((a1.getD x3.toNat default).Thick), ci ((a1.getD x3.toNat default).Width), ci ((a1.getD x3.toNat default).Allow), ci ((a1.getD x3.toNat default).Wane), tl qL default ((a1.getD x3.toNat default).Lengths), tl qL default ((a1.getD x3.toNat default).Prices)])] ?_
   refine q_sq ?_
   refine q_sq ?_
   obtain ⟨v6, h7, hm⟩ := qC hm
   refine q_vu [qc 2 [19] 1 (qAR ((a1.getD x3.toNat default).Name) v6 h7)] 1 [] [(21, vb (!v6))] [] [] ?_
   refine q_cn (!v6) (fun b8 => ?_) (fun b8 => ?_)
   ·replace hm := qA b8 hm
    refine q_sq ?_
    refine q_vn [] 1 ⟨[(2, vi 6)], []⟩ ?_
    obtain rfl := Option.some.inj hm
    refine q_rt ?_
    refine zB 6 ?_
    exact q_rm
   ·replace hm := qB b8 hm
    refine q_sk ?_
    refine q_sq ?_
    refine q_sq ?_
    obtain ⟨g9, hm⟩ := qO hm
    obtain ⟨v10, h11, hm⟩ := qC hm
    refine q_du [qd 2 (drw ((a1.take x3.toNat).length) 0 (rf qE (a1.take x3.toNat))) (slPhi qE default a1 x3 (And.intro (slOk_of g9).2.1 (slOk_of g9).2.2)), qc 5 [25, 27] 1 (qAN (a1.take x3.toNat) ((a1.getD x3.toNat default).Name) v10 h11)] [0, 0, 3, 0, 8, 31, 63, 127, 127, 255, 1023] 1 [3, 21] [(6, vb v10.2)] [] [] ?_
    refine q_sq ?_
    refine q_vu [] 1 [6] [(31, vb v10.2)] [] [] ?_
    refine q_cn v10.2 (fun b12 => ?_) (fun b12 => ?_)
    ·replace hm := qA b12 hm
     refine q_sq ?_
     refine q_vn [] 1 ⟨[(2, vi 7)], []⟩ ?_
     obtain rfl := Option.some.inj hm
     refine q_rt ?_
     refine zB 7 ?_
     exact q_rm
    ·replace hm := qB b12 hm
     refine q_sk ?_
     refine q_sq ?_
     obtain ⟨v13, h14, hm⟩ := qC hm
     refine q_vu [qc 1 [32] 1 (LC (a1.getD x3.toNat default) v13 h14)] 1 [4, 31] [(7, vi v13)] [0] [] ?_
     refine q_sq ?_
     refine q_vu [] 1 [] [(35, vb (v13 != 0))] [] [] ?_
     refine q_cn (v13 != 0) (fun b15 => ?_) (fun b15 => ?_)
     ·replace hm := qA b15 hm
      refine q_sq ?_
      refine q_vn [] 1 ⟨[(2, vi v13)], []⟩ ?_
      obtain rfl := Option.some.inj hm
      refine q_rt ?_
      refine zB v13 ?_
      exact q_rm
     ·replace hm := qB b15 hm
      refine q_sk ?_
      refine q_vu [] 1 [7, 13, 35] [(13, vi (w64 (x3 + 1)))] [] [] ?_
      exact q_hl (XJ a1 (w64 (x3 + 1))) (ih (w64 (x3 + 1)) _ hm)
  ·replace hm := qB b4 hm
   refine q_ex 0 ?_
   obtain rfl := Option.some.inj hm
   exact jJ () (by kernel_rfl) (by kernel_rfl)
theorem PV (a1 : List Product) (r : Int) (hm : PF a1 = some r) : CtX Try.prog globs 52 0 0 [.one (tl qE default a1)] [] (QF r) (wS r) := by
 unfold PF at hm
 refine q_E Try.f52 38 fun E => ?_
 refine q_sq ?_
 refine q_vn [] 0 ⟨[(0, vc (tl qE default a1))], []⟩ ?_
 refine q_sq ?_
 refine q_sq ?_
 refine q_vu [] 0 [] [(10, vb (decide (((a1.length : Nat) : Int) > 16)))] [] [] ?_
 refine q_cn (decide (((a1.length : Nat) : Int) > 16)) (fun b2 => ?_) (fun b2 => ?_)
 ·replace hm := qA b2 hm
  refine q_sq ?_
  refine q_vn [] 0 ⟨[(2, vi 4)], []⟩ ?_
  obtain rfl := Option.some.inj hm
  refine q_rt ?_
  exact q_rm
 ·replace hm := qB b2 hm
  refine q_sk ?_
  refine q_sq ?_
  refine q_sq ?_
  refine q_vu [] 0 [10] [(11, vc (tl qE default a1)), (12, vi ((a1.length : Nat) : Int)), (13, vi 0)] [] [] ?_
  obtain ⟨u18, h17, hm⟩ := qC hm
  refine zI (nd Try.f52 116) 0 (by kernel_rfl) FUEL (fun o => GW) (fun v st => RetQ Try.prog Try.f52 (QF v) (wS v) .ret st) u18 (q_hl (XJ a1 0) (EK E a1 FUEL 0 u18 h17)) ?_ ?_
  ·rintro v19 rfl st hr
   obtain rfl := Option.some.inj hm
   exact hr
  ·rintro o16 rfl
   replace hm : _ = some r := hm
   refine q_sq ?_
   refine q_vn [] 0 ⟨[(2, vi 0)], []⟩ ?_
   obtain rfl := Option.some.inj hm
   refine q_rt ?_
   exact q_rm
set_option maxRecDepth 100000
def qBt (r : Bool) : V := vb r
def qBL (r : Bool) : List (Nat × (Nat × O)) := []
def BW (x3 : Bool) : St :=
 ⟨[(2, vb x3)], []⟩
theorem LI (a1 : Int) (r : Bool) (hm : TB a1 = some r) : CtX Try.prog globs 62 0 0 [.one (ci a1)] [] (qBt r) (qBL r) := by
 unfold TB at hm
 refine q_E Try.f62 9 fun E => ?_
 refine q_sq ?_
 refine q_vn [] 0 ⟨[(0, vi a1)], []⟩ ?_
 refine q_jn (ι := Bool) (fun p => BW p) (fun p => TO p = some r) ?_ ?_
 ·rintro x3 hm
  show H _ (BW x3) _ _
  obtain rfl := Option.some.inj hm
  refine q_rt ?_
  exact q_rm
 ·rcases Bool.eq_false_or_eq_true (decide (a1 ≥ 0)) with b2 | b2
  ·replace hm := qA b2 hm
   refine q_vn [qf 2 b2] 0 ⟨[(2, vb (decide (a1 ≤ 1000000)))], []⟩ ?_
   exact q_J (decide (a1 ≤ 1000000)) hm
  ·replace hm := qB b2 hm
   refine q_vn [qf 2 b2] 0 ⟨[(2, vb false)], []⟩ ?_
   exact q_J (false) hm
open Go.Proofs
set_option maxHeartbeats 4000000
set_option maxRecDepth 100000
def qBk (r : Bool) : V := vb r
def qBw (r : Bool) : List (Nat × (Nat × O)) := []
def BL (x3 : Bool) : St :=
 ⟨[(2, vb x3)], []⟩
theorem TY (a1 : Int) (r : Bool) (hm : UD a1 = some r) : CtX Try.prog globs 61 0 0 [.one (ci a1)] [] (qBk r) (qBw r) := by
 unfold UD at hm
 refine q_E Try.f61 9 fun E => ?_
 refine q_sq ?_
 refine q_vn [] 0 ⟨[(0, vi a1)], []⟩ ?_
 refine q_jn (ι := Bool) (fun p => BL p) (fun p => TU p = some r) ?_ ?_
 ·rintro x3 hm
  show H _ (BL x3) _ _
  obtain rfl := Option.some.inj hm
  refine q_rt ?_
  exact q_rm
 ·rcases Bool.eq_false_or_eq_true (decide (a1 ≥ 1)) with b2 | b2
  ·replace hm := qA b2 hm
   refine q_vn [qf 2 b2] 0 ⟨[(2, vb (decide (a1 ≤ 20000)))], []⟩ ?_
   exact q_J (decide (a1 ≤ 20000)) hm
  ·replace hm := qB b2 hm
   refine q_vn [qf 2 b2] 0 ⟨[(2, vb false)], []⟩ ?_
   exact q_J (false) hm
def qCH (r : Int) : V := vi r
def qCI (r : Int) : List (Nat × (Nat × O)) := []
def FV (x20 : Bool) : St :=
 ⟨[(60, vb x20)], []⟩
def FN (a2 : Rates) (x12 : Bool) : St :=
 ⟨[(3, vp 1 0), (36, vb x12)], [(1, bx 35 (yX a2))]⟩
def LB (a1 : Saw) (a2 : Rates) (x6 : Bool) : St :=
 ⟨[(2, vp 0 0), (3, vp 1 0), (22, vb x6)], [(0, bx 33 (zX a1)), (1, bx 35 (yX a2))]⟩
theorem qBl (a1 : Saw) (a2 : Rates) (r : Int) (hm : MO a1 a2 = some r) : CtX Try.prog globs 53 0 0 [.agg (zX a1), .agg (yX a2)] [] (qCH r) (qCI r) := by
 unfold MO at hm
 refine q_E Try.f53 61 fun E => ?_
 refine q_sq ?_
 refine q_vn [] 0 ⟨[(2, vp 0 0), (3, vp 1 0)], [(0, bx 33 (zX a1)), (1, bx 35 (yX a2))]⟩ ?_
 refine q_sq ?_
 refine q_jn (ι := Bool) (fun p => LB a1 a2 p) (fun p => ZY a1 a2 p = some r) ?_ ?_
 ·rintro x6 hm
  show H _ (LB a1 a2 x6) _ _
  refine q_cn x6 (fun b7 => ?_) (fun b7 => ?_)
  ·replace hm := qA b7 hm
   refine q_sq ?_
   refine q_vn [] 2 ⟨[(4, vi 9)], []⟩ ?_
   obtain rfl := Option.some.inj hm
   refine q_rt ?_
   exact q_rm
  ·replace hm := qB b7 hm
   refine q_sk ?_
   refine q_sq ?_
   refine q_jn (ι := Bool) (fun p => FN a2 p) (fun p => XU a2 p = some r) ?_ ?_
   ·rintro x12 hm
    show H _ (FN a2 x12) _ _
    refine q_cn x12 (fun b13 => ?_) (fun b13 => ?_)
    ·replace hm := qA b13 hm
     refine q_sq ?_
     refine q_vn [] 2 ⟨[(4, vi 9)], []⟩ ?_
     obtain rfl := Option.some.inj hm
     refine q_rt ?_
     exact q_rm
    ·replace hm := qB b13 hm
     refine q_sk ?_
     refine q_sq ?_
     refine q_jn (ι := Bool) (fun p => FV p) (fun p => yH p = some r) ?_ ?_
     ·rintro x20 hm
      show H _ (FV x20) _ _
      refine q_cn x20 (fun b21 => ?_) (fun b21 => ?_)
      ·replace hm := qA b21 hm
       refine q_sq ?_
       refine q_vn [] 2 ⟨[(4, vi 9)], []⟩ ?_
       obtain rfl := Option.some.inj hm
       refine q_rt ?_
       exact q_rm
      ·replace hm := qB b21 hm
       refine q_sk ?_
       refine q_sq ?_
       refine q_vn [] 2 ⟨[(4, vi 0)], []⟩ ?_
       obtain rfl := Option.some.inj hm
       refine q_rt ?_
       exact q_rm
     ·rcases Bool.eq_false_or_eq_true (decide (a2.Chip < 0)) with b14 | b14
      ·replace hm := qA b14 hm
       refine q_vn [qf 3 b14] 2 ⟨[(60, vb true)], []⟩ ?_
       exact q_J (true) hm
      ·replace hm := qB b14 hm
       rcases Bool.eq_false_or_eq_true (decide (a2.Chip > 1000)) with b15 | b15
       ·replace hm := qA b15 hm
        refine q_vn [qf 3 b14, qf 8 b15] 2 ⟨[(60, vb true)], []⟩ ?_
        exact q_J (true) hm
       ·replace hm := qB b15 hm
        rcases Bool.eq_false_or_eq_true (decide (a2.Dust < 0)) with b16 | b16
        ·replace hm := qA b16 hm
         refine q_vn [qf 3 b14, qf 8 b15, qf 13 b16] 2 ⟨[(60, vb true)], []⟩ ?_
         exact q_J (true) hm
        ·replace hm := qB b16 hm
         rcases Bool.eq_false_or_eq_true (decide (a2.Dust > 1000)) with b17 | b17
         ·replace hm := qA b17 hm
          refine q_vn [qf 3 b14, qf 8 b15, qf 13 b16, qf 18 b17] 2 ⟨[(60, vb true)], []⟩ ?_
          exact q_J (true) hm
         ·replace hm := qB b17 hm
          obtain ⟨v18, h19, hm⟩ := qC hm
          refine q_vn [qf 3 b14, qf 8 b15, qf 13 b16, qf 18 b17, qk 21 [55, 57] 2 ⟨[(55, vb false), (57, vi a2.Fine)], []⟩ (LI a2.Fine v18 h19)] 2 ⟨[(60, vb (!v18))], []⟩ ?_
          exact q_J (!v18) hm
   ·rcases Bool.eq_false_or_eq_true (decide (a1.Pitch < 1)) with b8 | b8
    ·replace hm := qA b8 hm
     refine q_vu [qf 3 b8] 2 [2, 22] [(36, vb true)] [0] [] ?_
     exact q_J (true) hm
    ·replace hm := qB b8 hm
     rcases Bool.eq_false_or_eq_true (decide (a1.Pitch > 2000)) with b9 | b9
     ·replace hm := qA b9 hm
      refine q_vu [qf 3 b8, qf 8 b9] 2 [2, 22] [(36, vb true)] [0] [] ?_
      exact q_J (true) hm
     ·replace hm := qB b9 hm
      obtain ⟨v10, h11, hm⟩ := qC hm
      refine q_vu [qf 3 b8, qf 8 b9, qk 11 [31, 33] 2 ⟨[(31, vb false), (33, vi a1.Step)], []⟩ (TY a1.Step v10 h11)] 2 [2, 22] [(36, vb (!v10))] [0] [] ?_
      exact q_J (!v10) hm
 ·rcases Bool.eq_false_or_eq_true (decide (a1.Kerf < 0)) with b3 | b3
  ·replace hm := qA b3 hm
   refine q_vu [qf 3 b3] 2 [] [(22, vb true)] [] [] ?_
   exact q_J (true) hm
  ·replace hm := qB b3 hm
   rcases Bool.eq_false_or_eq_true (decide (a1.Kerf > 20)) with b4 | b4
   ·replace hm := qA b4 hm
    refine q_vu [qf 3 b3, qf 8 b4] 2 [] [(22, vb true)] [] [] ?_
    exact q_J (true) hm
   ·replace hm := qB b4 hm
    rcases Bool.eq_false_or_eq_true (decide (a1.Trim < 0)) with b5 | b5
    ·replace hm := qA b5 hm
     refine q_vu [qf 3 b3, qf 8 b4, qf 13 b5] 2 [] [(22, vb true)] [] [] ?_
     exact q_J (true) hm
    ·replace hm := qB b5 hm
     refine q_vu [qf 3 b3, qf 8 b4, qf 13 b5] 2 [] [(22, vb (decide (a1.Trim > 20)))] [] [] ?_
     exact q_J (decide (a1.Trim > 20)) hm
set_option maxRecDepth 100000
def KC (r : Bool) : V := vb r
def KD (r : Bool) : List (Nat × (Nat × O)) := []
def UT (a1 : Rect) (x2 : Int) (x7 : Bool) : St :=
 ⟨[(9, va (qK a1)), (10, vi x2), (27, vb x7)], []⟩
def WQ (a1 : Rect) (x2 : Int) : St :=
 ⟨[(9, va (qK a1)), (10, vi x2)], []⟩
def TS : St :=
 ⟨[], []⟩
theorem HU (E : Env 0) (a1 : Rect) : ∀ (n : Nat) (x2 : Int) (res : Bool ⊕ Unit), wL a1 n x2 = some res → HL (kx E 29 0) (nd Try.f73 52) (jD 0 (fun o => TS) (fun v st => RetQ Try.prog Try.f73 (KC v) (KD v) .ret st) res) n (WQ a1 x2) := by
 intro n
 induction n with
 | zero =>
  intro x2 res hm
  cases hm
 | succ n ih =>
  intro x2 res hm
  refine qV ?_
  refine q_sq ?_
  refine q_vu [] 1 [] [(11, vb (decide (x2 < 2)))] [] [] ?_
  refine q_sq ?_
  refine q_cn (decide (x2 < 2)) (fun b3 => ?_) (fun b3 => ?_)
  ·replace hm := qA b3 hm
   refine q_sk ?_
   refine q_sq ?_
   refine q_bk 1 ?_
   refine q_sq ?_
   obtain ⟨g4, hm⟩ := qO hm
   refine q_vu [qd 0 (Dir.none) (inb_of g4)] 1 [11] [(4, vp 1 0)] [] [(1, bx 26 [ci (([a1.X.A, a1.X.B, a1.Y.A, a1.Y.B] : List Int).getD (x2.toNat * 2 + 0) 0), ci (([a1.X.A, a1.X.B, a1.Y.A, a1.Y.B] : List Int).getD (x2.toNat * 2 + 1) 0)])] ?_
   refine q_jn (ι := Bool) (fun p => UT a1 x2 p) (fun p => QH x2 (wL a1 n) p = some res) ?_ ?_
   ·rintro x7 hm
    show H _ (UT a1 x2 x7) _ _
    refine q_cn x7 (fun b8 => ?_) (fun b8 => ?_)
    ·replace hm := qA b8 hm
     refine q_sq ?_
     refine q_vn [] 2 ⟨[(2, vb false)], []⟩ ?_
     obtain rfl := Option.some.inj hm
     refine q_rt ?_
     refine zB false ?_
     exact q_rm
    ·replace hm := qB b8 hm
     refine q_sk ?_
     refine q_vu [] 2 [10, 27] [(10, vi (w64 (x2 + 1)))] [] [] ?_
     exact q_hl (WQ a1 (w64 (x2 + 1))) (ih (w64 (x2 + 1)) _ hm)
   ·rcases Bool.eq_false_or_eq_true (decide ((([a1.X.A, a1.X.B, a1.Y.A, a1.Y.B] : List Int).getD (x2.toNat * 2 + 0) 0) < (-600))) with b5 | b5
    ·replace hm := qA b5 hm
     refine q_vu [qf 3 b5] 2 [4] [(27, vb true)] [1] [] ?_
     exact q_J (true) hm
    ·replace hm := qB b5 hm
     rcases Bool.eq_false_or_eq_true (decide ((([a1.X.A, a1.X.B, a1.Y.A, a1.Y.B] : List Int).getD (x2.toNat * 2 + 1) 0) > 600)) with b6 | b6
     ·replace hm := qA b6 hm
      refine q_vu [qf 3 b5, qf 8 b6] 2 [4] [(27, vb true)] [1] [] ?_
      exact q_J (true) hm
     ·replace hm := qB b6 hm
      refine q_vu [qf 3 b5, qf 8 b6] 2 [4] [(27, vb (decide ((([a1.X.A, a1.X.B, a1.Y.A, a1.Y.B] : List Int).getD (x2.toNat * 2 + 0) 0) ≥ (([a1.X.A, a1.X.B, a1.Y.A, a1.Y.B] : List Int).getD (x2.toNat * 2 + 1) 0))))] [1] [] ?_
      exact q_J (decide ((([a1.X.A, a1.X.B, a1.Y.A, a1.Y.B] : List Int).getD (x2.toNat * 2 + 0) 0) ≥ (([a1.X.A, a1.X.B, a1.Y.A, a1.Y.B] : List Int).getD (x2.toNat * 2 + 1) 0))) hm
  ·replace hm := qB b3 hm
   refine q_ex 0 ?_
   obtain rfl := Option.some.inj hm
   exact jJ () (by kernel_rfl) (by kernel_rfl)
theorem DM (a1 : Rect) (r : Bool) (hm : YB a1 = some r) : CtX Try.prog globs 73 0 0 [.agg (qK a1)] [] (KC r) (KD r) := by
 unfold YB at hm
 refine q_E Try.f73 29 fun E => ?_
 refine q_sq ?_
 refine q_vn [] 0 ⟨[(1, vp 0 0)], [(0, bx 28 (qK a1))]⟩ ?_
 refine q_sq ?_
 refine q_sq ?_
 refine q_vn [] 1 ⟨[(9, va (qK a1)), (10, vi 0)], []⟩ ?_
 obtain ⟨u11, h10, hm⟩ := qC hm
 refine zI (nd Try.f73 52) 0 (by kernel_rfl) FUEL (fun o => TS) (fun v st => RetQ Try.prog Try.f73 (KC v) (KD v) .ret st) u11 (q_hl (WQ a1 0) (HU E a1 FUEL 0 u11 h10)) ?_ ?_
 ·rintro v12 rfl st hr
  obtain rfl := Option.some.inj hm
  exact hr
 ·rintro o9 rfl
  replace hm : _ = some r := hm
  refine q_sq ?_
  refine q_vn [] 1 ⟨[(2, vb true)], []⟩ ?_
  obtain rfl := Option.some.inj hm
  refine q_rt ?_
  exact q_rm
open Go.Proofs
set_option maxHeartbeats 4000000
set_option maxRecDepth 100000
def qAa (r : Pattern × Int) : V := vc (.fn 75 [.bptr 0 0 0, .bptr 1 0 0])
def CR (r : Pattern × Int) : List (Nat × (Nat × O)) := [(0, bx 31 (qD r.1)), (1, bx 3 [ci r.2])]
theorem ZC (a1 : Pattern) (a2 : Int) (r : Pattern × Int) (hm : yD a1 a2 = some r) : CtX Try.prog globs 57 0 0 [.agg (qD a1), .one (ci a2)] [] (qAa r) (CR r) := by
 unfold yD at hm
 refine q_E Try.f57 6 fun E => ?_
 refine q_sq ?_
 refine q_vn [] 0 ⟨[(2, vp 0 0), (3, vp 1 0)], [(0, bx 31 (qD a1)), (1, bx 3 [ci a2])]⟩ ?_
 refine q_sq ?_
 refine q_vu [] 2 [2, 3] [(4, vc (.fn 75 [.bptr 0 0 0, .bptr 1 0 0]))] [] [] ?_
 obtain rfl := Option.some.inj hm
 refine q_rt ?_
 exact q_rm
def qAx (r : Bool) : V := vb r
def qAJ (r : Bool) : List (Nat × (Nat × O)) := []
def GX (x3 : Bool) : St :=
 ⟨[(2, vb x3)], []⟩
theorem jI (a1 : Int) (r : Bool) (hm : jB a1 = some r) : CtX Try.prog globs 58 0 0 [.one (ci a1)] [] (qAx r) (qAJ r) := by
 unfold jB at hm
 refine q_E Try.f58 9 fun E => ?_
 refine q_sq ?_
 refine q_vn [] 0 ⟨[(0, vi a1)], []⟩ ?_
 refine q_jn (ι := Bool) (fun p => GX p) (fun p => RJ p = some r) ?_ ?_
 ·rintro x3 hm
  show H _ (GX x3) _ _
  obtain rfl := Option.some.inj hm
  refine q_rt ?_
  exact q_rm
 ·rcases Bool.eq_false_or_eq_true (a1 == 2) with b2 | b2
  ·replace hm := qA b2 hm
   refine q_vn [qf 2 b2] 0 ⟨[(2, vb true)], []⟩ ?_
   exact q_J (true) hm
  ·replace hm := qB b2 hm
   refine q_vn [qf 2 b2] 0 ⟨[(2, vb (a1 == 3))], []⟩ ?_
   exact q_J (a1 == 3) hm
set_option maxRecDepth 100000
def qAL (r : Span) : V := va (e_Span r)
def qAM (r : Span) : List (Nat × (Nat × O)) := []
theorem FL (a1 : Rect) (a2 : Int) (r : Span) (hm : PH a1 a2 = some r) : CtX Try.prog globs 76 0 0 [.agg (qK a1), .one (ci a2)] [] (qAL r) (qAM r) := by
 unfold PH at hm
 refine q_E Try.f76 11 fun E => ?_
 refine q_sq ?_
 refine q_vn [] 0 ⟨[(1, vi a2), (2, vp 0 0), (4, vp 1 0)], [(0, bx 28 (qK a1)), (1, bx 26 [ci 0, ci 0])]⟩ ?_
 refine q_sq ?_
 refine q_sq ?_
 refine q_vu [] 2 [1] [(6, vb (a2 == 2))] [] [] ?_
 refine q_cn (a2 == 2) (fun b3 => ?_) (fun b3 => ?_)
 ·replace hm := qA b3 hm
  refine q_sq ?_
  refine q_vn [] 2 ⟨[(4, vp 1 0)], [(1, bx 26 (e_Span a1.X))]⟩ ?_
  obtain rfl := Option.some.inj hm
  refine q_rt ?_
  exact q_rm
 ·replace hm := qB b3 hm
  refine q_sk ?_
  refine q_sq ?_
  refine q_vn [] 2 ⟨[(4, vp 1 0)], [(1, bx 26 (e_Span a1.Y))]⟩ ?_
  obtain rfl := Option.some.inj hm
  refine q_rt ?_
  exact q_rm
open Go.Proofs
set_option maxHeartbeats 4000000
set_option maxRecDepth 100000
def EN (r : Int) : V := vi r
def EG (r : Int) : List (Nat × (Nat × O)) := []
def KX : St :=
 ⟨[], []⟩
def KQ (x15 : Bool) : St :=
 ⟨[(46, vb x15)], []⟩
def KS (a1 : Node) (a2 : Pattern_place) (x6 : Bool) : St :=
 ⟨[(2, vp 0 0), (3, vp 1 0), (23, vb x6)], [(0, bx 59 (zO a1)), (1, bx 123 (e_Pattern_place a2))]⟩
theorem UB (a1 : Node) (a2 : Pattern_place) (r : Int) (hm : QX a1 a2 = some r) : CtX Try.prog globs 74 0 0 [.agg (zO a1), .agg (e_Pattern_place a2)] [] (EN r) (EG r) := by
 unfold QX at hm
 refine q_E Try.f74 47 fun E => ?_
 refine q_sq ?_
 refine q_vn [] 0 ⟨[(2, vp 0 0), (3, vp 1 0)], [(0, bx 59 (zO a1)), (1, bx 123 (e_Pattern_place a2))]⟩ ?_
 refine q_sq ?_
 refine q_jn (ι := Bool) (fun p => KS a1 a2 p) (fun p => wW a1 a2 p = some r) ?_ ?_
 ·rintro x6 hm
  show H _ (KS a1 a2 x6) _ _
  refine q_cn x6 (fun b7 => ?_) (fun b7 => ?_)
  ·replace hm := qA b7 hm
   refine q_sq ?_
   refine q_vn [] 2 ⟨[(4, vi 10)], []⟩ ?_
   obtain rfl := Option.some.inj hm
   refine q_rt ?_
   exact q_rm
  ·replace hm := qB b7 hm
   refine q_sk ?_
   refine q_sq ?_
   refine q_sq ?_
   refine q_vu [] 2 [23] [(26, vb (decide (a2.level > 64)))] [] [] ?_
   refine q_cn (decide (a2.level > 64)) (fun b8 => ?_) (fun b8 => ?_)
   ·replace hm := qA b8 hm
    refine q_sq ?_
    refine q_vn [] 2 ⟨[(4, vi 28)], []⟩ ?_
    obtain rfl := Option.some.inj hm
    refine q_rt ?_
    exact q_rm
   ·replace hm := qB b8 hm
    refine q_sk ?_
    refine q_jn (ι := Unit) (fun p => KX) (fun p => WK = some r) ?_ ?_
    ·rintro _ hm
     show H _ (KX) _ _
     refine q_sq ?_
     refine q_vn [] 3 ⟨[(4, vi 0)], []⟩ ?_
     obtain rfl := Option.some.inj hm
     refine q_rt ?_
     exact q_rm
    ·refine q_sq ?_
     obtain ⟨v9, h10, hm⟩ := qC hm
     refine q_vu [qc 2 [28] 2 (jI a1.Kind v9 h10)] 2 [26] [(29, vb v9)] [] [] ?_
     refine q_cn v9 (fun b11 => ?_) (fun b11 => ?_)
     ·replace hm := qA b11 hm
      refine q_sq ?_
      obtain ⟨v12, h13, hm⟩ := qC hm
      refine q_vu [qc 4 [31, 33] 2 (FL a2.rect a1.Kind v12 h13)] 2 [3, 29] [(5, vp 2 0)] [1] [(2, bx 26 (e_Span v12))] ?_
      refine q_jn (ι := Bool) (fun p => KQ p) (fun p => WI p = some r) ?_ ?_
      ·rintro x15 hm
       show H _ (KQ x15) _ _
       refine q_cn x15 (fun b16 => ?_) (fun b16 => ?_)
       ·replace hm := qA b16 hm
        refine q_sq ?_
        refine q_vn [] 3 ⟨[(4, vi 20)], []⟩ ?_
        obtain rfl := Option.some.inj hm
        refine q_rt ?_
        exact q_rm
       ·replace hm := qB b16 hm
        refine q_sk ?_
        exact q_J () hm
      ·rcases Bool.eq_false_or_eq_true (decide (a1.At ≤ v12.A)) with b14 | b14
       ·replace hm := qA b14 hm
        refine q_vn [qf 5 b14] 3 ⟨[(46, vb true)], []⟩ ?_
        exact q_J (true) hm
       ·replace hm := qB b14 hm
        refine q_vn [qf 5 b14] 3 ⟨[(46, vb (decide (a1.At ≥ v12.B)))], []⟩ ?_
        exact q_J (decide (a1.At ≥ v12.B)) hm
     ·replace hm := qB b11 hm
      refine q_sk ?_
      exact q_J () hm
 ·rcases Bool.eq_false_or_eq_true (decide (a1.Kind < 0)) with b3 | b3
  ·replace hm := qA b3 hm
   refine q_vu [qf 3 b3] 2 [] [(23, vb true)] [] [] ?_
   exact q_J (true) hm
  ·replace hm := qB b3 hm
   rcases Bool.eq_false_or_eq_true (decide (a1.Kind > 3)) with b4 | b4
   ·replace hm := qA b4 hm
    refine q_vu [qf 3 b3, qf 8 b4] 2 [] [(23, vb true)] [] [] ?_
    exact q_J (true) hm
   ·replace hm := qB b4 hm
    rcases Bool.eq_false_or_eq_true (a1.Kind == 0) with b5 | b5
    ·replace hm := qA b5 hm
     refine q_vu [qf 3 b3, qf 8 b4, qf 12 b5] 2 [] [(23, vb (a1.At != 0))] [] [] ?_
     exact q_J (a1.At != 0) hm
    ·replace hm := qB b5 hm
     refine q_vu [qf 3 b3, qf 8 b4, qf 12 b5] 2 [] [(23, vb false)] [] [] ?_
     exact q_J (false) hm
def BJ (a1 : Rect) (a2 : Int) (a3 : List Product) (r : Int) : V := vi r
def pattern_Check_1_o (a1 : Rect) (a2 : Int) (a3 : List Product) (r : Int) : List (Nat × (Nat × O)) := [(0, bx 24 [tl qE default a3])]
def TR (a3 : List Product) (x18 : Bool) : St :=
 ⟨[(49, vb x18)], [(0, bx 24 [tl qE default a3])]⟩
def TC (a1 : Rect) (a2 : Int) (a3 : List Product) (x5 : Bool) : St :=
 ⟨[(1, vi a2), (2, vp 0 0), (3, vp 1 0), (17, vb x5)], [(0, bx 24 [tl qE default a3]), (1, bx 28 (qK a1))]⟩
theorem AS (a1 : Rect) (a2 : Int) (a3 : List Product) (r : Int) (hm : TJ a1 a2 a3 = some r) : CtX Try.prog globs 71 1 1 [.agg (qK a1), .one (ci a2), .one (.bptr 0 0 0)] [(0, bx 24 [tl qE default a3])] (BJ a1 a2 a3 r) (pattern_Check_1_o a1 a2 a3 r) := by
 unfold TJ at hm
 refine q_E Try.f71 50 fun E => ?_
 refine q_sq ?_
 refine q_vn [] 1 ⟨[(1, vi a2), (2, vp 0 0), (3, vp 1 0)], [(0, bx 24 [tl qE default a3]), (1, bx 28 (qK a1))]⟩ ?_
 refine q_sq ?_
 refine q_jn (ι := Bool) (fun p => TC a1 a2 a3 p) (fun p => YT a1 a2 a3 p = some r) ?_ ?_
 ·rintro x5 hm
  show H _ (TC a1 a2 a3 x5) _ _
  refine q_cn x5 (fun b6 => ?_) (fun b6 => ?_)
  ·replace hm := qA b6 hm
   refine q_sq ?_
   refine q_vu [] 2 [1, 2, 3, 17] [(5, vi 8)] [1] [] ?_
   obtain rfl := Option.some.inj hm
   refine q_rt ?_
   exact q_rm
  ·replace hm := qB b6 hm
   refine q_sk ?_
   refine q_sq ?_
   obtain ⟨g7, hm⟩ := qO hm
   obtain ⟨v8, h9, hm⟩ := qC hm
   refine q_vu [qd 2 (Dir.none) (inb_of g7), qc 4 [22] 2 (RA (a3.getD a2.toNat default) v8 h9)] 2 [1, 2, 17] [(6, vi v8.1), (7, vi v8.2)] [] [] ?_
   refine q_sq ?_
   obtain ⟨v10, h11, hm⟩ := qC hm
   obtain ⟨v12, h13, hm⟩ := qC hm
   refine q_du [qc 2 [27] 2 (JA a1.X v10 h11), qc 5 [30] 2 (JA a1.Y v12 h13)] [0, 1, 3, 0, 8, 31, 63, 127] 2 [3] [(8, vi v10), (9, vi v12)] [1] [] ?_
   refine q_sq ?_
   refine q_jn (ι := Bool) (fun p => TR a3 p) (fun p => wI p = some r) ?_ ?_
   ·rintro x18 hm
    show H _ (TR a3 x18) _ _
    refine q_cn x18 (fun b19 => ?_) (fun b19 => ?_)
    ·replace hm := qA b19 hm
     refine q_sq ?_
     refine q_vu [] 2 [49] [(5, vi 20)] [] [] ?_
     obtain rfl := Option.some.inj hm
     refine q_rt ?_
     exact q_rm
    ·replace hm := qB b19 hm
     refine q_sk ?_
     refine q_sq ?_
     refine q_vu [] 2 [49] [(5, vi 0)] [] [] ?_
     obtain rfl := Option.some.inj hm
     refine q_rt ?_
     exact q_rm
   ·rcases Bool.eq_false_or_eq_true (v10 != v8.1) with b14 | b14
    ·replace hm := qA b14 hm
     rcases Bool.eq_false_or_eq_true (v10 != v8.2) with b15 | b15
     ·replace hm := qA b15 hm
      refine q_vu [qf 3 b14, qf 12 b15] 2 [6, 7, 8, 9] [(49, vb true)] [] [] ?_
      exact q_J (true) hm
     ·replace hm := qB b15 hm
      refine q_vu [qf 3 b14, qf 12 b15] 2 [6, 7, 8, 9] [(49, vb (v12 != v8.1))] [] [] ?_
      exact q_J (v12 != v8.1) hm
    ·replace hm := qB b14 hm
     rcases Bool.eq_false_or_eq_true (v12 != v8.2) with b16 | b16
     ·replace hm := qA b16 hm
      rcases Bool.eq_false_or_eq_true (v10 != v8.2) with b17 | b17
      ·replace hm := qA b17 hm
       refine q_vu [qf 3 b14, qf 8 b16, qf 12 b17] 2 [6, 7, 8, 9] [(49, vb true)] [] [] ?_
       exact q_J (true) hm
      ·replace hm := qB b17 hm
       refine q_vu [qf 3 b14, qf 8 b16, qf 12 b17] 2 [6, 7, 8, 9] [(49, vb (v12 != v8.1))] [] [] ?_
       exact q_J (v12 != v8.1) hm
     ·replace hm := qB b16 hm
      refine q_vu [qf 3 b14, qf 8 b16] 2 [6, 7, 8, 9] [(49, vb false)] [] [] ?_
      exact q_J (false) hm
 ·rcases Bool.eq_false_or_eq_true (decide (a2 < 0)) with b4 | b4
  ·replace hm := qA b4 hm
   refine q_vu [qf 2 b4] 2 [] [(17, vb true)] [] [] ?_
   exact q_J (true) hm
  ·replace hm := qB b4 hm
   refine q_vu [qf 2 b4] 2 [] [(17, vb (decide (a2 ≥ ((a3.length : Nat) : Int))))] [] [] ?_
   exact q_J (decide (a2 ≥ ((a3.length : Nat) : Int))) hm
set_option maxRecDepth 100000
noncomputable def ZP (a1 : Int) (a2 : Pattern_place) (a3 : Pattern) (a4 : List Product) (a5 : Int) (a6 : Int) (ri : RI 67) (r : Nat × Int × Int) : V := vb (Nat.beq r.1 0)
noncomputable def ZG (a1 : Int) (a2 : Pattern_place) (a3 : Pattern) (a4 : List Product) (a5 : Int) (a6 : Int) (ri : RI 67) (r : Nat × Int × Int) : List (Nat × (Nat × O)) := [(0, lz (rc Try.f55 506 ri) ri.b [.ret] r.1), (1, bx 31 (qD a3)), (2, bx 118 [.fn 71 [.bptr 3 0 0]]), (3, bx 24 [tl qE default a4]), (4, bx 42 [ci r.2.1]), (5, bx 3 [ci r.2.2])]
noncomputable def XQ (ri : RI 67) (a1 : Int) (a3 : Pattern) (a4 : List Product) (a5 : Int) (a6 : Int) (x16 : Int) : St :=
 ⟨[(6, vp 4 0), (7, vp 5 0), (8, vi a1), (11, vi x16)], [(0, ly (rc Try.f55 506 ri) ri.b), (1, bx 31 (qD a3)), (2, bx 118 [.fn 71 [.bptr 3 0 0]]), (3, bx 24 [tl qE default a4]), (4, bx 42 [ci a5]), (5, bx 3 [ci a6])]⟩
noncomputable def XI (ri : RI 67) (a1 : Int) (a2 : Pattern_place) (a3 : Pattern) (a4 : List Product) (a5 : Int) (a6 : Int) (v9 : Int) (x12 : Bool) : St :=
 ⟨[(5, vp 2 0), (6, vp 4 0), (7, vp 5 0), (8, vi a1), (9, vp 6 0), (10, vp 7 0), (11, vi v9), (50, vb x12)], [(0, ly (rc Try.f55 506 ri) ri.b), (1, bx 31 (qD a3)), (2, bx 118 [.fn 71 [.bptr 3 0 0]]), (3, bx 24 [tl qE default a4]), (4, bx 42 [ci a5]), (5, bx 3 [ci a6]), (6, bx 123 (e_Pattern_place a2)), (7, bx 59 [ci ((a3.Nodes.getD a1.toNat default).Kind), ci ((a3.Nodes.getD a1.toNat default).At)])]⟩
theorem KV (a1 : Int) (a2 : Pattern_place) (a3 : Pattern) (a4 : List Product) (a5 : Int) (a6 : Int) (ri : RI 67) (r : Nat × Int × Int) (hm : JE a1 a2 a3 a4 a5 a6 = some r) : CtR Try.prog globs (rc Try.f55 506 ri) ri.b [3, 5, 6, 7] 6 6 [.one (ci a1), .agg (e_Pattern_place a2), .one (.bptr 1 0 0), .one (.bptr 2 0 0), .one (.bptr 4 0 0), .one (.bptr 5 0 0)] [(0, lq (rc Try.f55 506 ri) ri.b), (1, bx 31 (qD a3)), (2, bx 118 [.fn 71 [.bptr 3 0 0]]), (3, bx 24 [tl qE default a4]), (4, bx 42 [ci a5]), (5, bx 3 [ci a6])] (ZP a1 a2 a3 a4 a5 a6 ri r) (ZG a1 a2 a3 a4 a5 a6 ri r) := by
 unfold JE at hm
 refine q_R Try.f55 506 67 ri fun E => ?_
 refine q_sq ?_
 refine q_vn [] 6 ⟨[(3, vp 1 0), (5, vp 2 0), (6, vp 4 0), (7, vp 5 0), (8, vi a1), (30, va (e_Pattern_place a2))], [(0, lq (rc Try.f55 506 ri) ri.b), (1, bx 31 (qD a3)), (2, bx 118 [.fn 71 [.bptr 3 0 0]]), (3, bx 24 [tl qE default a4]), (4, bx 42 [ci a5]), (5, bx 3 [ci a6])]⟩ ?_
 refine q_vu [] 6 [30] [(9, vp 6 0)] [] [(6, bx 123 (e_Pattern_place a2))] ?_
 refine q_rd ⟨[(3, vp 1 0), (5, vp 2 0), (6, vp 4 0), (7, vp 5 0), (8, vi a1), (9, vp 6 0)], [(0, ly (rc Try.f55 506 ri) ri.b), (1, bx 31 (qD a3)), (2, bx 118 [.fn 71 [.bptr 3 0 0]]), (3, bx 24 [tl qE default a4]), (4, bx 42 [ci a5]), (5, bx 3 [ci a6]), (6, bx 123 (e_Pattern_place a2))]⟩ ?_
 refine q_bk 1 ?_
 refine q_sq ?_
 refine q_sq ?_
 refine q_vu [] 7 [] [(35, vb (decide (a1 ≥ ((a3.Nodes.length : Nat) : Int))))] [] [] ?_
 refine q_cn (decide (a1 ≥ ((a3.Nodes.length : Nat) : Int))) (fun b7 => ?_) (fun b7 => ?_)
 ·replace hm := qA b7 hm
  refine q_sq ?_
  refine q_vu [] 7 [3, 5, 6, 7, 8, 9, 35] [] [4, 6] [(4, bx 42 [ci 3])] ?_
  obtain rfl := Option.some.inj hm
  refine q_rt ?_
  exact q_rq
 ·replace hm := qB b7 hm
  refine q_sk ?_
  refine q_sq ?_
  obtain ⟨g8, hm⟩ := qO hm
  refine q_vu [qd 3 (Dir.none) (inb_of g8)] 7 [3, 35] [(10, vp 7 0)] [] [(7, bx 59 [ci ((a3.Nodes.getD a1.toNat default).Kind), ci ((a3.Nodes.getD a1.toNat default).At)])] ?_
  refine q_sq ?_
  obtain ⟨v9, h10, hm⟩ := qC hm
  refine q_vu [qc 2 [41, 42] 8 (UB (a3.Nodes.getD a1.toNat default) a2 v9 h10)] 8 [] [(11, vi v9)] [] [] ?_
  refine q_jn (ι := Int) (fun p => XQ ri a1 a3 a4 a5 a6 p) (fun p => QT a1 a5 a6 p = some r) ?_ ?_
  ·rintro x16 hm
   show H _ (XQ ri a1 a3 a4 a5 a6 x16) _ _
   refine q_sq ?_
   refine q_sq ?_
   refine q_vu [] 8 [] [(58, vb (x16 != 0))] [] [] ?_
   refine q_cn (x16 != 0) (fun b17 => ?_) (fun b17 => ?_)
   ·replace hm := qA b17 hm
    refine q_sq ?_
    refine q_vu [] 8 [6, 7, 8, 11, 58] [] [4] [(4, bx 42 [ci x16])] ?_
    obtain rfl := Option.some.inj hm
    refine q_rt ?_
    exact q_rq
   ·replace hm := qB b17 hm
    refine q_sk ?_
    refine q_vu [] 8 [6, 7, 8, 11, 58] [] [5] [(5, bx 3 [ci (w64 (a1 + 1))])] ?_
    obtain rfl := Option.some.inj hm
    exact q_rq
  ·refine q_jn (ι := Bool) (fun p => XI ri a1 a2 a3 a4 a5 a6 v9 p) (fun p => QO a1 a2 a3 a4 a5 a6 v9 p = some r) ?_ ?_
   ·rintro x12 hm
    show H _ (XI ri a1 a2 a3 a4 a5 a6 v9 x12) _ _
    refine q_cn x12 (fun b13 => ?_) (fun b13 => ?_)
    ·replace hm := qA b13 hm
     obtain ⟨v14, h15, hm⟩ := qC hm
     refine q_vu [qd 5 (dex (cen [(3, 0)] [0] 7 1 (BJ a2.rect ((a3.Nodes.getD a1.toNat default).At) a4 v14) (pattern_Check_1_o a2.rect ((a3.Nodes.getD a1.toNat default).At) a4 v14) [51, 53, 55] [3])) (PB (K := (kr E 67 6 ri.b)) ⟨[(51, vc (.fn 71 [.bptr 3 0 0])), (53, va (qK a2.rect)), (55, vi ((a3.Nodes.getD a1.toNat default).At))], [(3, bx 24 [tl qE default a4])]⟩ (opAt (rg Try.f55 129722) 5) [(3, 0)] [0] 7 o0 rfl (AS a2.rect ((a3.Nodes.getD a1.toNat default).At) a4 v14 h15) (.inl rfl) (by kernel_rfl))] 8 [5, 9, 10, 11, 50] [(11, vi v14)] [6, 7] [] ?_
     exact q_J (v14) hm
    ·replace hm := qB b13 hm
     refine q_sk ?_
     exact q_J (v9) hm
   ·rcases Bool.eq_false_or_eq_true (v9 == 0) with b11 | b11
    ·replace hm := qA b11 hm
     refine q_vu [qf 2 b11] 8 [] [(50, vb (((a3.Nodes.getD a1.toNat default).Kind) == 1))] [] [] ?_
     exact q_J (((a3.Nodes.getD a1.toNat default).Kind) == 1) hm
    ·replace hm := qB b11 hm
     refine q_vu [qf 2 b11] 8 [] [(50, vb false)] [] [] ?_
     exact q_J (false) hm
open Go.Proofs
set_option maxHeartbeats 4000000
set_option maxRecDepth 100000
def qBE (r : Rect) : V := va (qK r)
def qBm (r : Rect) : List (Nat × (Nat × O)) := []
def BM (x5 : Rect) : St :=
 ⟨[(3, vp 0 0), (6, vp 2 0)], [(0, bx 28 (qK x5)), (2, bx 28 [ci 0, ci 0, ci 0, ci 0])]⟩
theorem UI (a1 : Rect) (a2 : Int) (a3 : Span) (r : Rect) (hm : YR a1 a2 a3 = some r) : CtX Try.prog globs 77 0 0 [.agg (qK a1), .one (ci a2), .agg (e_Span a3)] [] (qBE r) (qBm r) := by
 unfold YR at hm
 refine q_E Try.f77 14 fun E => ?_
 refine q_sq ?_
 refine q_vn [] 0 ⟨[(1, vi a2), (3, vp 0 0), (5, vp 1 0), (6, vp 2 0)], [(0, bx 28 (qK a1)), (1, bx 26 (e_Span a3)), (2, bx 28 [ci 0, ci 0, ci 0, ci 0])]⟩ ?_
 refine q_jn (ι := Rect) (fun p => BM p) (fun p => UN p = some r) ?_ ?_
 ·rintro x5 hm
  show H _ (BM x5) _ _
  refine q_sq ?_
  refine q_vu [] 3 [3] [] [0, 2] [(2, bx 28 (qK x5))] ?_
  obtain rfl := Option.some.inj hm
  refine q_rt ?_
  exact q_rm
 ·refine q_sq ?_
  refine q_vu [] 3 [1] [(8, vb (a2 == 2))] [] [] ?_
  refine q_cn (a2 == 2) (fun b4 => ?_) (fun b4 => ?_)
  ·replace hm := qA b4 hm
   refine q_vu [] 3 [5, 8] [] [0, 1] [(0, bx 28 [ci a3.A, ci a3.B, ci a1.Y.A, ci a1.Y.B])] ?_
   exact q_J ((Rect.mk a3 a1.Y)) hm
  ·replace hm := qB b4 hm
   refine q_vu [] 3 [5, 8] [] [0, 1] [(0, bx 28 [ci a1.X.A, ci a1.X.B, ci a3.A, ci a3.B])] ?_
   exact q_J ((Rect.mk a1.X a3)) hm
def qAs (r : Rect × Rect × Rect) : V := .tup [.agg (qK r.1), .agg (qK r.2.1), .agg (qK r.2.2)]
def qA7 (r : Rect × Rect × Rect) : List (Nat × (Nat × O)) := []
theorem yM (a1 : Rect) (a2 : Node) (a3 : Int) (r : Rect × Rect × Rect) (hm : jV a1 a2 a3 = some r) : CtX Try.prog globs 59 0 0 [.agg (qK a1), .agg (zO a2), .one (ci a3)] [] (qAs r) (qA7 r) := by
 unfold jV at hm
 refine q_E Try.f59 50 fun E => ?_
 refine q_sq ?_
 refine q_vn [] 0 ⟨[(2, vi a3), (3, vp 0 0), (4, vp 1 0), (6, vp 2 0), (7, vp 3 0), (8, vp 4 0)], [(0, bx 28 (qK a1)), (1, bx 59 (zO a2)), (2, bx 28 [ci 0, ci 0, ci 0, ci 0]), (3, bx 28 [ci 0, ci 0, ci 0, ci 0]), (4, bx 28 [ci 0, ci 0, ci 0, ci 0])]⟩ ?_
 refine q_sq ?_
 obtain ⟨v4, h5, hm⟩ := qC hm
 refine q_vu [qc 3 [11, 13] 5 (FL a1 a2.Kind v4 h5)] 5 [] [(9, vp 5 0)] [] [(5, bx 26 (e_Span v4))] ?_
 refine q_sq ?_
 refine q_vu [] 6 [2] [(10, vi (imin (w64 (a2.At + a3)) v4.B))] [] [] ?_
 refine q_sq ?_
 obtain ⟨v6, h7, hm⟩ := qC hm
 refine q_vu [qc 8 [22, 24, 29] 6 (UI a1 a2.Kind (Span.mk v4.A a2.At) v6 h7)] 6 [] [] [2] [(2, bx 28 (qK v6))] ?_
 refine q_sq ?_
 obtain ⟨v8, h9, hm⟩ := qC hm
 refine q_vu [qc 7 [31, 33, 37] 6 (UI a1 a2.Kind (Span.mk a2.At (imin (w64 (a2.At + a3)) v4.B)) v8 h9)] 6 [] [] [3] [(3, bx 28 (qK v8))] ?_
 refine q_sq ?_
 obtain ⟨v10, h11, hm⟩ := qC hm
 refine q_vu [qc 7 [39, 41, 45] 6 (UI a1 a2.Kind (Span.mk (imin (w64 (a2.At + a3)) v4.B) v4.B) v10 h11)] 6 [3, 4, 9, 10] [] [0, 1, 4, 5] [(4, bx 28 (qK v10))] ?_
 refine q_sq ?_
 refine q_du [] [0, 0, 0, 1, 11, 31] 6 [] [] [] [] ?_
 obtain rfl := Option.some.inj hm
 refine q_rt ?_
 exact q_rm
end Saw
end Go.SL
