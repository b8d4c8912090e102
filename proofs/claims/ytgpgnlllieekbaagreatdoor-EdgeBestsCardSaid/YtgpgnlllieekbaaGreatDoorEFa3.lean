import Derived.Test.YtgpgnlllieekbaaGreatDoorEBase
import Derived.Test.YtgpgnlllieekbaaGreatDoorEFa1
import Derived.Test.YtgpgnlllieekbaaGreatDoorEFa2
set_option linter.unusedVariables false
set_option linter.unusedSimpArgs false
namespace Go.SL
namespace Saw
open Go.Proofs
set_option maxHeartbeats 4000000
set_option maxRecDepth 100000
def EI (r : Int × Bool) : V := .tup [.one (ci r.1), .one (cb r.2)]
def EH (r : Int × Bool) : List (Nat × (Nat × O)) := []
def BH (a1 : List qC) (a2 : ByteArray) (x3 : Int) : St :=
 ⟨[(1, vc (cs a2)), (8, vc (tl qE default a1)), (9, vi ((a1.length : Nat) : Int)), (10, vi x3)], []⟩
def OG : St :=
 ⟨[], []⟩
theorem qER (E : Env 0) (a1 : List qC) (a2 : ByteArray) : ∀ (n : Nat) (x3 : Int) (res : (Int × Bool) ⊕ Unit), QF a1 a2 n x3 = some res → HL (kx E 21 0) (nd Tryz.f52 52) (wC 0 (fun o => OG) (fun v st => RetQ Tryz.prog Tryz.f52 (EI v) (EH v) .ret st) res) n (BH a1 a2 x3) := by
 intro n
 induction n with
 | zero =>
  intro x3 res hm
  cases hm
 | succ n ih =>
  intro x3 res hm
  refine qO ?_
  refine q_sq ?_
  refine q_vu [] 0 [] [(11, vb (decide (x3 < ((a1.length : Nat) : Int))))] [] [] ?_
  refine q_sq ?_
  refine q_cn (decide (x3 < ((a1.length : Nat) : Int))) (fun b4 => ?_) (fun b4 => ?_)
  ·replace hm := qB b4 hm
   refine q_sk ?_
   refine q_sq ?_
   refine q_bk 1 ?_
   refine q_sq ?_
   obtain ⟨g5, hm⟩ := qI hm
   refine q_vu [qd 1 (Dir.none) (inb_of g5)] 0 [11] [(6, vi x3), (7, vp 0 0)] [] [(0, bx 58 [cs ((a1.getD x3.toNat default).Name), ci ((a1.getD x3.toNat default).Thick), ci ((a1.getD x3.toNat default).Width), ci ((a1.getD x3.toNat default).Allow), ci ((a1.getD x3.toNat default).Wane), tl e_i64 default ((a1.getD x3.toNat default).Lengths), tl e_i64 default ((a1.getD x3.toNat default).Prices)])] ?_
   refine q_sq ?_
   refine q_vu [] 1 [7] [(18, vb (strEq ((a1.getD x3.toNat default).Name) a2))] [0] [] ?_
   refine q_cn (strEq ((a1.getD x3.toNat default).Name) a2) (fun b6 => ?_) (fun b6 => ?_)
   ·replace hm := qB b6 hm
    refine q_sq ?_
    refine q_vn [] 1 ⟨[(4, vi x3), (5, vb true)], []⟩ ?_
    obtain rfl := Option.some.inj hm
    refine q_rt ?_
    refine qU (x3, true) ?_
    exact q_rm
   ·replace hm := qA b6 hm
    refine q_sk ?_
    refine q_vu [] 1 [6, 10, 18] [(10, vi (w64 (x3 + 1)))] [] [] ?_
    exact q_hl (BH a1 a2 (w64 (x3 + 1))) (ih (w64 (x3 + 1)) _ hm)
  ·replace hm := qA b4 hm
   refine q_ex 0 ?_
   obtain rfl := Option.some.inj hm
   exact wF () (by kernel_rfl) (by kernel_rfl)
theorem qHq (a1 : List qC) (a2 : ByteArray) (r : Int × Bool) (hm : GL a1 a2 = some r) : CtX Tryz.prog globs 52 0 0 [.one (tl qE default a1), .one (cs a2)] [] (EI r) (EH r) := by
 unfold GL at hm
 refine q_E Tryz.f52 21 fun E => ?_
 refine q_sq ?_
 refine q_vn [] 0 ⟨[(0, vc (tl qE default a1)), (1, vc (cs a2))], []⟩ ?_
 refine q_sq ?_
 refine q_sq ?_
 refine q_vu [] 0 [0] [(8, vc (tl qE default a1)), (9, vi ((a1.length : Nat) : Int)), (10, vi 0)] [] [] ?_
 obtain ⟨u9, h8, hm⟩ := qD hm
 refine zI (nd Tryz.f52 52) 0 (by kernel_rfl) FUEL (fun o => OG) (fun v st => RetQ Tryz.prog Tryz.f52 (EI v) (EH v) .ret st) u9 (q_hl (BH a1 a2 0) (qER E a1 a2 FUEL 0 u9 h8)) ?_ ?_
 ·rintro v10 rfl st hr
  obtain rfl := Option.some.inj hm
  exact hr
 ·rintro o7 rfl
  replace hm : _ = some r := hm
  refine q_sq ?_
  refine q_vn [] 0 ⟨[(4, vi 0), (5, vb false)], []⟩ ?_
  obtain rfl := Option.some.inj hm
  refine q_rt ?_
  exact q_rm
def yI (r : Int) : V := vi r
def yH (r : Int) : List (Nat × (Nat × O)) := []
def UQ (a1 : qC) (x18 : Int) (x26 : Bool) : St :=
 ⟨[(1, vp 0 0), (70, vc (tl e_i64 default a1.Lengths)), (71, vi ((a1.Lengths.length : Nat) : Int)), (72, vi x18), (94, vb x26)], [(0, bx 58 (qE a1))]⟩
def UT (a1 : qC) (x18 : Int) (x22 : Bool) : St :=
 ⟨[(1, vp 0 0), (5, vi x18), (6, vi (a1.Lengths.getD x18.toNat default)), (70, vc (tl e_i64 default a1.Lengths)), (71, vi ((a1.Lengths.length : Nat) : Int)), (72, vi x18), (82, vb x22)], [(0, bx 58 (qE a1))]⟩
def JF (a1 : qC) (x18 : Int) : St :=
 ⟨[(1, vp 0 0), (70, vc (tl e_i64 default a1.Lengths)), (71, vi ((a1.Lengths.length : Nat) : Int)), (72, vi x18)], [(0, bx 58 (qE a1))]⟩
def UA (a1 : qC) : St :=
 ⟨[(1, vp 0 0)], [(0, bx 58 (qE a1))]⟩
def UB (a1 : qC) (x32 : Int) (x36 : Bool) : St :=
 ⟨[(97, vc (tl e_i64 default a1.Prices)), (98, vi ((a1.Prices.length : Nat) : Int)), (99, vi x32), (108, vb x36)], []⟩
def JI (a1 : qC) (x32 : Int) : St :=
 ⟨[(97, vc (tl e_i64 default a1.Prices)), (98, vi ((a1.Prices.length : Nat) : Int)), (99, vi x32)], []⟩
def UH : St :=
 ⟨[], []⟩
def UM (a1 : qC) (x10 : Bool) : St :=
 ⟨[(1, vp 0 0), (46, vb x10)], [(0, bx 58 (qE a1))]⟩
def UG (a1 : qC) (x5 : Bool) : St :=
 ⟨[(1, vp 0 0), (28, vb x5)], [(0, bx 58 (qE a1))]⟩
theorem IV (E : Env 0) (a1 : qC) : ∀ (n : Nat) (x18 : Int) (res : Int ⊕ Unit), zK a1 n x18 = some res → HL (kx E 110 0) (nd Tryz.f53 4084) (wC 0 (fun o => UA a1) (fun v st => RetQ Tryz.prog Tryz.f53 (yI v) (yH v) .ret st) res) n (JF a1 x18) := by
 intro n
 induction n with
 | zero =>
  intro x18 res hm
  cases hm
 | succ n ih =>
  intro x18 res hm
  refine qO ?_
  refine q_sq ?_
  refine q_vu [] 1 [] [(73, vb (decide (x18 < ((a1.Lengths.length : Nat) : Int))))] [] [] ?_
  refine q_sq ?_
  refine q_cn (decide (x18 < ((a1.Lengths.length : Nat) : Int))) (fun b19 => ?_) (fun b19 => ?_)
  ·replace hm := qB b19 hm
   refine q_sk ?_
   refine q_sq ?_
   refine q_bk 1 ?_
   refine q_sq ?_
   obtain ⟨g20, hm⟩ := qI hm
   refine q_vu [qd 1 (Dir.none) (inb_of g20)] 1 [73] [(5, vi x18), (6, vi (a1.Lengths.getD x18.toNat default))] [] [] ?_
   refine q_sq ?_
   refine q_jn (ι := Bool) (fun p => UT a1 x18 p) (fun p => ZG a1 x18 (zK a1 n) p = some res) ?_ ?_
   ·rintro x22 hm
    show H _ (UT a1 x18 x22) _ _
    refine q_cn x22 (fun b23 => ?_) (fun b23 => ?_)
    ·replace hm := qB b23 hm
     refine q_sq ?_
     refine q_vn [] 1 ⟨[(2, vi 9)], []⟩ ?_
     obtain rfl := Option.some.inj hm
     refine q_rt ?_
     refine qU 9 ?_
     exact q_rm
    ·replace hm := qA b23 hm
     refine q_sk ?_
     refine q_jn (ι := Bool) (fun p => UQ a1 x18 p) (fun p => ZI x18 (zK a1 n) p = some res) ?_ ?_
     ·rintro x26 hm
      show H _ (UQ a1 x18 x26) _ _
      refine q_cn x26 (fun b27 => ?_) (fun b27 => ?_)
      ·replace hm := qB b27 hm
       refine q_sq ?_
       refine q_vn [] 1 ⟨[(2, vi 11)], []⟩ ?_
       obtain rfl := Option.some.inj hm
       refine q_rt ?_
       refine qU 11 ?_
       exact q_rm
      ·replace hm := qA b27 hm
       refine q_sk ?_
       refine q_vu [] 1 [72, 94] [(72, vi (w64 (x18 + 1)))] [] [] ?_
       exact q_hl (JF a1 (w64 (x18 + 1))) (ih (w64 (x18 + 1)) _ hm)
     ·rcases Bool.eq_false_or_eq_true (decide (x18 > 0)) with b24 | b24
      ·replace hm := qB b24 hm
       obtain ⟨g25, hm⟩ := qI hm
       refine q_vu [qf 2 b24, qd 8 (Dir.none) (inb_of g25)] 1 [5, 6, 82] [(86, vi (a1.Lengths.getD x18.toNat default)), (87, vp 0 5), (88, vc (tl e_i64 default a1.Lengths)), (89, vi x18), (90, vi (w64 (x18 - 1))), (91, vc (.lptr (e_i64 (a1.Lengths.getD (w64 (x18 - 1)).toNat default)))), (92, vi (a1.Lengths.getD (w64 (x18 - 1)).toNat default)), (93, vb (decide ((a1.Lengths.getD x18.toNat default) ≤ (a1.Lengths.getD (w64 (x18 - 1)).toNat default)))), (94, vb (decide ((a1.Lengths.getD x18.toNat default) ≤ (a1.Lengths.getD (w64 (x18 - 1)).toNat default))))] [] [] ?_
       exact q_J (decide ((a1.Lengths.getD x18.toNat default) ≤ (a1.Lengths.getD (w64 (x18 - 1)).toNat default))) hm
      ·replace hm := qA b24 hm
       refine q_vu [qf 2 b24] 1 [5, 6, 82] [(94, vb false)] [] [] ?_
       exact q_J (false) hm
   ·rcases Bool.eq_false_or_eq_true (decide ((a1.Lengths.getD x18.toNat default) < 100)) with b21 | b21
    ·replace hm := qB b21 hm
     refine q_vu [qf 2 b21] 1 [] [(82, vb true)] [] [] ?_
     exact q_J (true) hm
    ·replace hm := qA b21 hm
     refine q_vu [qf 2 b21] 1 [] [(80, vi (a1.Lengths.getD x18.toNat default)), (81, vb (decide ((a1.Lengths.getD x18.toNat default) > 20000))), (82, vb (decide ((a1.Lengths.getD x18.toNat default) > 20000)))] [] [] ?_
     exact q_J (decide ((a1.Lengths.getD x18.toNat default) > 20000)) hm
  ·replace hm := qA b19 hm
   refine q_ex 0 ?_
   obtain rfl := Option.some.inj hm
   exact wF () (by kernel_rfl) (by kernel_rfl)
theorem OA (E : Env 0) (a1 : qC) : ∀ (n : Nat) (x32 : Int) (res : Int ⊕ Unit), zU a1 n x32 = some res → HL (kx E 110 0) (nd Tryz.f53 8180) (wC 2 (fun o => UH) (fun v st => RetQ Tryz.prog Tryz.f53 (yI v) (yH v) .ret st) res) n (JI a1 x32) := by
 intro n
 induction n with
 | zero =>
  intro x32 res hm
  cases hm
 | succ n ih =>
  intro x32 res hm
  refine qO ?_
  refine q_sq ?_
  refine q_vu [] 1 [] [(100, vb (decide (x32 < ((a1.Prices.length : Nat) : Int))))] [] [] ?_
  refine q_sq ?_
  refine q_cn (decide (x32 < ((a1.Prices.length : Nat) : Int))) (fun b33 => ?_) (fun b33 => ?_)
  ·replace hm := qB b33 hm
   refine q_sk ?_
   refine q_sq ?_
   refine q_bk 3 ?_
   refine q_sq ?_
   obtain ⟨g34, hm⟩ := qI hm
   refine q_vu [qd 0 (Dir.none) (inb_of g34)] 1 [100] [(8, vi (a1.Prices.getD x32.toNat default))] [] [] ?_
   refine q_jn (ι := Bool) (fun p => UB a1 x32 p) (fun p => ZF x32 (zU a1 n) p = some res) ?_ ?_
   ·rintro x36 hm
    show H _ (UB a1 x32 x36) _ _
    refine q_cn x36 (fun b37 => ?_) (fun b37 => ?_)
    ·replace hm := qB b37 hm
     refine q_sq ?_
     refine q_vn [] 1 ⟨[(2, vi 9)], []⟩ ?_
     obtain rfl := Option.some.inj hm
     refine q_rt ?_
     refine qU 9 ?_
     exact q_rm
    ·replace hm := qA b37 hm
     refine q_sk ?_
     refine q_vu [] 1 [99, 108] [(99, vi (w64 (x32 + 1)))] [] [] ?_
     exact q_hl (JI a1 (w64 (x32 + 1))) (ih (w64 (x32 + 1)) _ hm)
   ·rcases Bool.eq_false_or_eq_true (decide ((a1.Prices.getD x32.toNat default) < 0)) with b35 | b35
    ·replace hm := qB b35 hm
     refine q_vu [qf 2 b35] 1 [8] [(108, vb true)] [] [] ?_
     exact q_J (true) hm
    ·replace hm := qA b35 hm
     refine q_vu [qf 2 b35] 1 [8] [(106, vi (a1.Prices.getD x32.toNat default)), (107, vb (decide ((a1.Prices.getD x32.toNat default) > 1000000))), (108, vb (decide ((a1.Prices.getD x32.toNat default) > 1000000)))] [] [] ?_
     exact q_J (decide ((a1.Prices.getD x32.toNat default) > 1000000)) hm
  ·replace hm := qA b33 hm
   refine q_ex 2 ?_
   obtain rfl := Option.some.inj hm
   exact wF () (by kernel_rfl) (by kernel_rfl)
theorem qBA (a1 : qC) (r : Int) (hm : QS a1 = some r) : CtX Tryz.prog globs 53 0 0 [.agg (qE a1)] [] (yI r) (yH r) := by
 unfold QS at hm
 refine q_E Tryz.f53 110 fun E => ?_
 refine q_sq ?_
 refine q_vn [] 0 ⟨[(1, vp 0 0)], [(0, bx 58 (qE a1))]⟩ ?_
 refine q_sq ?_
 refine q_jn (ι := Bool) (fun p => UG a1 p) (fun p => wV a1 p = some r) ?_ ?_
 ·rintro x5 hm
  show H _ (UG a1 x5) _ _
  refine q_cn x5 (fun b6 => ?_) (fun b6 => ?_)
  ·replace hm := qB b6 hm
   refine q_sq ?_
   refine q_vn [] 1 ⟨[(2, vi 9)], []⟩ ?_
   obtain rfl := Option.some.inj hm
   refine q_rt ?_
   exact q_rm
  ·replace hm := qA b6 hm
   refine q_sk ?_
   refine q_sq ?_
   refine q_jn (ι := Bool) (fun p => UM a1 p) (fun p => wU a1 p = some r) ?_ ?_
   ·rintro x10 hm
    show H _ (UM a1 x10) _ _
    refine q_cn x10 (fun b11 => ?_) (fun b11 => ?_)
    ·replace hm := qB b11 hm
     refine q_sq ?_
     refine q_vn [] 1 ⟨[(2, vi 9)], []⟩ ?_
     obtain rfl := Option.some.inj hm
     refine q_rt ?_
     exact q_rm
    ·replace hm := qA b11 hm
     refine q_sk ?_
     refine q_sq ?_
     refine q_sq ?_
     obtain ⟨v12, h13, hm⟩ := qD hm
     refine q_vu [qc 1 [48] 1 (zaQ a1 v12 h13)] 1 [46] [(4, vi v12.2)] [] [] ?_
     refine q_sq ?_
     refine q_vu [] 1 [4] [(53, vb (decide (v12.2 > 600)))] [] [] ?_
     refine q_cn (decide (v12.2 > 600)) (fun b14 => ?_) (fun b14 => ?_)
     ·replace hm := qB b14 hm
      refine q_sq ?_
      refine q_vn [] 1 ⟨[(2, vi 9)], []⟩ ?_
      obtain rfl := Option.some.inj hm
      refine q_rt ?_
      exact q_rm
     ·replace hm := qA b14 hm
      refine q_sk ?_
      refine q_sq ?_
      refine q_sq ?_
      refine q_vu [] 1 [53] [(57, vb (((a1.Lengths.length : Nat) : Int) == 0))] [] [] ?_
      refine q_cn (((a1.Lengths.length : Nat) : Int) == 0) (fun b15 => ?_) (fun b15 => ?_)
      ·replace hm := qB b15 hm
       refine q_sq ?_
       refine q_vn [] 1 ⟨[(2, vi 3)], []⟩ ?_
       obtain rfl := Option.some.inj hm
       refine q_rt ?_
       exact q_rm
      ·replace hm := qA b15 hm
       refine q_sk ?_
       refine q_sq ?_
       refine q_sq ?_
       refine q_vu [] 1 [57] [(61, vb (decide (((a1.Lengths.length : Nat) : Int) > 8)))] [] [] ?_
       refine q_cn (decide (((a1.Lengths.length : Nat) : Int) > 8)) (fun b16 => ?_) (fun b16 => ?_)
       ·replace hm := qB b16 hm
        refine q_sq ?_
        refine q_vn [] 1 ⟨[(2, vi 4)], []⟩ ?_
        obtain rfl := Option.some.inj hm
        refine q_rt ?_
        exact q_rm
       ·replace hm := qA b16 hm
        refine q_sk ?_
        refine q_sq ?_
        refine q_sq ?_
        refine q_vu [] 1 [61] [(68, vb (((a1.Prices.length : Nat) : Int) != ((a1.Lengths.length : Nat) : Int)))] [] [] ?_
        refine q_cn (((a1.Prices.length : Nat) : Int) != ((a1.Lengths.length : Nat) : Int)) (fun b17 => ?_) (fun b17 => ?_)
        ·replace hm := qB b17 hm
         refine q_sq ?_
         refine q_vn [] 1 ⟨[(2, vi 19)], []⟩ ?_
         obtain rfl := Option.some.inj hm
         refine q_rt ?_
         exact q_rm
        ·replace hm := qA b17 hm
         refine q_sk ?_
         refine q_sq ?_
         refine q_sq ?_
         refine q_vu [] 1 [68] [(70, vc (tl e_i64 default a1.Lengths)), (71, vi ((a1.Lengths.length : Nat) : Int)), (72, vi 0)] [] [] ?_
         obtain ⟨u30, h29, hm⟩ := qD hm
         refine zI (nd Tryz.f53 4084) 0 (by kernel_rfl) FUEL (fun o => UA a1) (fun v st => RetQ Tryz.prog Tryz.f53 (yI v) (yH v) .ret st) u30 (q_hl (JF a1 0) (IV E a1 FUEL 0 u30 h29)) ?_ ?_
         ·rintro v31 rfl st hr
          obtain rfl := Option.some.inj hm
          exact hr
         ·rintro o28 rfl
          replace hm : _ = some r := hm
          refine q_sq ?_
          refine q_sq ?_
          refine q_vn [] 1 ⟨[(97, vc (tl e_i64 default a1.Prices)), (98, vi ((a1.Prices.length : Nat) : Int)), (99, vi 0)], []⟩ ?_
          obtain ⟨u40, h39, hm⟩ := qD hm
          refine zI (nd Tryz.f53 8180) 2 (by kernel_rfl) FUEL (fun o => UH) (fun v st => RetQ Tryz.prog Tryz.f53 (yI v) (yH v) .ret st) u40 (q_hl (JI a1 0) (OA E a1 FUEL 0 u40 h39)) ?_ ?_
          ·rintro v41 rfl st hr
           obtain rfl := Option.some.inj hm
           exact hr
          ·rintro o38 rfl
           replace hm : _ = some r := hm
           refine q_sq ?_
           refine q_vn [] 1 ⟨[(2, vi 0)], []⟩ ?_
           obtain rfl := Option.some.inj hm
           refine q_rt ?_
           exact q_rm
   ·rcases Bool.eq_false_or_eq_true (decide (a1.Allow < 0)) with b7 | b7
    ·replace hm := qB b7 hm
     refine q_vu [qf 3 b7] 1 [28] [(46, vb true)] [] [] ?_
     exact q_J (true) hm
    ·replace hm := qA b7 hm
     rcases Bool.eq_false_or_eq_true (decide (a1.Allow > 200)) with b8 | b8
     ·replace hm := qB b8 hm
      refine q_vu [qf 3 b7, qf 8 b8] 1 [28] [(46, vb true)] [] [] ?_
      exact q_J (true) hm
     ·replace hm := qA b8 hm
      rcases Bool.eq_false_or_eq_true (decide (a1.Wane < 0)) with b9 | b9
      ·replace hm := qB b9 hm
       refine q_vu [qf 3 b7, qf 8 b8, qf 13 b9] 1 [28] [(46, vb true)] [] [] ?_
       exact q_J (true) hm
      ·replace hm := qA b9 hm
       refine q_vu [qf 3 b7, qf 8 b8, qf 13 b9] 1 [28] [(46, vb (decide (a1.Wane > 1000)))] [] [] ?_
       exact q_J (decide (a1.Wane > 1000)) hm
 ·rcases Bool.eq_false_or_eq_true (decide (a1.Thick < 5)) with b2 | b2
  ·replace hm := qB b2 hm
   refine q_vu [qf 3 b2] 1 [] [(28, vb true)] [] [] ?_
   exact q_J (true) hm
  ·replace hm := qA b2 hm
   rcases Bool.eq_false_or_eq_true (decide (a1.Thick > 300)) with b3 | b3
   ·replace hm := qB b3 hm
    refine q_vu [qf 3 b2, qf 8 b3] 1 [] [(28, vb true)] [] [] ?_
    exact q_J (true) hm
   ·replace hm := qA b3 hm
    rcases Bool.eq_false_or_eq_true (decide (a1.Width < a1.Thick)) with b4 | b4
    ·replace hm := qB b4 hm
     refine q_vu [qf 3 b2, qf 8 b3, qf 15 b4] 1 [] [(28, vb true)] [] [] ?_
     exact q_J (true) hm
    ·replace hm := qA b4 hm
     refine q_vu [qf 3 b2, qf 8 b3, qf 15 b4] 1 [] [(28, vb (decide (a1.Width > 600)))] [] [] ?_
     exact q_J (decide (a1.Width > 600)) hm
set_option maxRecDepth 100000
def KC (r : Int) : V := vi r
def QT (r : Int) : List (Nat × (Nat × O)) := []
theorem qCw (r : Int) : WC (QT r) := by
 intro i k o h
 unfold QT at h
 cases h
def GD (a1 : List qC) (x3 : Int) : St :=
 ⟨[(0, vc (tl qE default a1)), (11, vc (tl qE default a1)), (12, vi ((a1.length : Nat) : Int)), (13, vi x3)], []⟩
def AJ : St :=
 ⟨[], []⟩
theorem qEe (E : Env 0) (a1 : List qC) : ∀ (n : Nat) (x3 : Int) (res : Int ⊕ Unit), yQ a1 n x3 = some res → HL (kx E 38 0) (nd Tryz.f29 116) (wC 0 (fun o => AJ) (fun v st => RetQ Tryz.prog Tryz.f29 (KC v) (QT v) .ret st) res) n (GD a1 x3) := by
 intro n
 induction n with
 | zero =>
  intro x3 res hm
  cases hm
 | succ n ih =>
  intro x3 res hm
  refine qO ?_
  refine q_sq ?_
  refine q_vu [] 0 [] [(14, vb (decide (x3 < ((a1.length : Nat) : Int))))] [] [] ?_
  refine q_sq ?_
  refine q_cn (decide (x3 < ((a1.length : Nat) : Int))) (fun b4 => ?_) (fun b4 => ?_)
  ·replace hm := qB b4 hm
   refine q_sk ?_
   refine q_sq ?_
   refine q_bk 1 ?_
   refine q_sq ?_
   obtain ⟨g5, hm⟩ := qI hm
   refine q_vu [qd 1 (Dir.none) (inb_of g5)] 0 [14] [(3, vi x3), (4, vp 0 0)] [] [(0, bx 58 [cs ((a1.getD x3.toNat default).Name), ci ((a1.getD x3.toNat default).Thick), ci ((a1.getD x3.toNat default).Width), ci ((a1.getD x3.toNat default).Allow), ci ((a1.getD x3.toNat default).Wane), tl e_i64 default ((a1.getD x3.toNat default).Lengths), tl e_i64 default ((a1.getD x3.toNat default).Prices)])] ?_
   refine q_sq ?_
   refine q_sq ?_
   obtain ⟨v6, h7, hm⟩ := qD hm
   refine q_vu [qc 2 [19] 1 (qHZ ((a1.getD x3.toNat default).Name) v6 h7)] 1 [] [(21, vb (!v6))] [] [] ?_
   refine q_cn (!v6) (fun b8 => ?_) (fun b8 => ?_)
   ·replace hm := qB b8 hm
    refine q_sq ?_
    refine q_vn [] 1 ⟨[(2, vi 6)], []⟩ ?_
    obtain rfl := Option.some.inj hm
    refine q_rt ?_
    refine qU 6 ?_
    exact q_rm
   ·replace hm := qA b8 hm
    refine q_sk ?_
    refine q_sq ?_
    refine q_sq ?_
    obtain ⟨g9, hm⟩ := qI hm
    obtain ⟨v10, h11, hm⟩ := qD hm
    refine q_du [qd 2 (drw ((a1.take x3.toNat).length) 0 (rf qE (a1.take x3.toNat))) (slPhi qE default a1 x3 (And.intro (slOk_of g9).2.1 (slOk_of g9).2.2)), qc 5 [25, 27] 1 (qHq (a1.take x3.toNat) ((a1.getD x3.toNat default).Name) v10 h11)] [0, 0, 3, 0, 8, 31, 63, 127, 127, 255, 1023] 1 [3, 21] [(6, vb v10.2)] [] [] ?_
    refine q_sq ?_
    refine q_vu [] 1 [6] [(31, vb v10.2)] [] [] ?_
    refine q_cn v10.2 (fun b12 => ?_) (fun b12 => ?_)
    ·replace hm := qB b12 hm
     refine q_sq ?_
     refine q_vn [] 1 ⟨[(2, vi 7)], []⟩ ?_
     obtain rfl := Option.some.inj hm
     refine q_rt ?_
     refine qU 7 ?_
     exact q_rm
    ·replace hm := qA b12 hm
     refine q_sk ?_
     refine q_sq ?_
     obtain ⟨v13, h14, hm⟩ := qD hm
     refine q_vu [qc 1 [32] 1 (qBA (a1.getD x3.toNat default) v13 h14)] 1 [4, 31] [(7, vi v13)] [0] [] ?_
     refine q_sq ?_
     refine q_vu [] 1 [] [(35, vb (v13 != 0))] [] [] ?_
     refine q_cn (v13 != 0) (fun b15 => ?_) (fun b15 => ?_)
     ·replace hm := qB b15 hm
      refine q_sq ?_
      refine q_vn [] 1 ⟨[(2, vi v13)], []⟩ ?_
      obtain rfl := Option.some.inj hm
      refine q_rt ?_
      refine qU v13 ?_
      exact q_rm
     ·replace hm := qA b15 hm
      refine q_sk ?_
      refine q_vu [] 1 [7, 13, 35] [(13, vi (w64 (x3 + 1)))] [] [] ?_
      exact q_hl (GD a1 (w64 (x3 + 1))) (ih (w64 (x3 + 1)) _ hm)
  ·replace hm := qA b4 hm
   refine q_ex 0 ?_
   obtain rfl := Option.some.inj hm
   exact wF () (by kernel_rfl) (by kernel_rfl)
theorem RK (a1 : List qC) (r : Int) (hm : WZ a1 = some r) : CtX Tryz.prog globs 29 0 0 [.one (tl qE default a1)] [] (KC r) (QT r) := by
 unfold WZ at hm
 refine q_E Tryz.f29 38 fun E => ?_
 refine q_sq ?_
 refine q_vn [] 0 ⟨[(0, vc (tl qE default a1))], []⟩ ?_
 refine q_sq ?_
 refine q_sq ?_
 refine q_vu [] 0 [] [(10, vb (decide (((a1.length : Nat) : Int) > 16)))] [] [] ?_
 refine q_cn (decide (((a1.length : Nat) : Int) > 16)) (fun b2 => ?_) (fun b2 => ?_)
 ·replace hm := qB b2 hm
  refine q_sq ?_
  refine q_vn [] 0 ⟨[(2, vi 4)], []⟩ ?_
  obtain rfl := Option.some.inj hm
  refine q_rt ?_
  exact q_rm
 ·replace hm := qA b2 hm
  refine q_sk ?_
  refine q_sq ?_
  refine q_sq ?_
  refine q_vu [] 0 [10] [(11, vc (tl qE default a1)), (12, vi ((a1.length : Nat) : Int)), (13, vi 0)] [] [] ?_
  obtain ⟨u18, h17, hm⟩ := qD hm
  refine zI (nd Tryz.f29 116) 0 (by kernel_rfl) FUEL (fun o => AJ) (fun v st => RetQ Tryz.prog Tryz.f29 (KC v) (QT v) .ret st) u18 (q_hl (GD a1 0) (qEe E a1 FUEL 0 u18 h17)) ?_ ?_
  ·rintro v19 rfl st hr
   obtain rfl := Option.some.inj hm
   exact hr
  ·rintro o16 rfl
   replace hm : _ = some r := hm
   refine q_sq ?_
   refine q_vn [] 0 ⟨[(2, vi 0)], []⟩ ?_
   obtain rfl := Option.some.inj hm
   refine q_rt ?_
   exact q_rm
open Go.Proofs
set_option maxHeartbeats 4000000
set_option maxRecDepth 100000
def EL (r : Bool) : V := vb r
def SZ (r : Bool) : List (Nat × (Nat × O)) := []
def OZ (a1 : Rect) (x2 : Int) (x7 : Bool) : St :=
 ⟨[(9, va (qK a1)), (10, vi x2), (27, vb x7)], []⟩
def BG (a1 : Rect) (x2 : Int) : St :=
 ⟨[(9, va (qK a1)), (10, vi x2)], []⟩
def CV : St :=
 ⟨[], []⟩
theorem qEB (E : Env 0) (a1 : Rect) : ∀ (n : Nat) (x2 : Int) (res : Bool ⊕ Unit), wG a1 n x2 = some res → HL (kx E 29 0) (nd Tryz.f113 52) (wC 0 (fun o => CV) (fun v st => RetQ Tryz.prog Tryz.f113 (EL v) (SZ v) .ret st) res) n (BG a1 x2) := by
 intro n
 induction n with
 | zero =>
  intro x2 res hm
  cases hm
 | succ n ih =>
  intro x2 res hm
  refine qO ?_
  refine q_sq ?_
  refine q_vu [] 1 [] [(11, vb (decide (x2 < 2)))] [] [] ?_
  refine q_sq ?_
  refine q_cn (decide (x2 < 2)) (fun b3 => ?_) (fun b3 => ?_)
  ·replace hm := qB b3 hm
   refine q_sk ?_
   refine q_sq ?_
   refine q_bk 1 ?_
   refine q_sq ?_
   obtain ⟨g4, hm⟩ := qI hm
   refine q_vu [qd 0 (Dir.none) (inb_of g4)] 1 [11] [(4, vp 1 0)] [] [(1, bx 26 [ci (([a1.X.A, a1.X.B, a1.Y.A, a1.Y.B] : List Int).getD (x2.toNat * 2 + 0) 0), ci (([a1.X.A, a1.X.B, a1.Y.A, a1.Y.B] : List Int).getD (x2.toNat * 2 + 1) 0)])] ?_
   refine q_jn (ι := Bool) (fun p => OZ a1 x2 p) (fun p => yE x2 (wG a1 n) p = some res) ?_ ?_
   ·rintro x7 hm
    show H _ (OZ a1 x2 x7) _ _
    refine q_cn x7 (fun b8 => ?_) (fun b8 => ?_)
    ·replace hm := qB b8 hm
     refine q_sq ?_
     refine q_vn [] 2 ⟨[(2, vb false)], []⟩ ?_
     obtain rfl := Option.some.inj hm
     refine q_rt ?_
     refine qU false ?_
     exact q_rm
    ·replace hm := qA b8 hm
     refine q_sk ?_
     refine q_vu [] 2 [10, 27] [(10, vi (w64 (x2 + 1)))] [] [] ?_
     exact q_hl (BG a1 (w64 (x2 + 1))) (ih (w64 (x2 + 1)) _ hm)
   ·rcases Bool.eq_false_or_eq_true (decide ((([a1.X.A, a1.X.B, a1.Y.A, a1.Y.B] : List Int).getD (x2.toNat * 2 + 0) 0) < (-600))) with b5 | b5
    ·replace hm := qB b5 hm
     refine q_vu [qf 3 b5] 2 [4] [(27, vb true)] [1] [] ?_
     exact q_J (true) hm
    ·replace hm := qA b5 hm
     rcases Bool.eq_false_or_eq_true (decide ((([a1.X.A, a1.X.B, a1.Y.A, a1.Y.B] : List Int).getD (x2.toNat * 2 + 1) 0) > 600)) with b6 | b6
     ·replace hm := qB b6 hm
      refine q_vu [qf 3 b5, qf 8 b6] 2 [4] [(17, vp 1 1), (18, vi (([a1.X.A, a1.X.B, a1.Y.A, a1.Y.B] : List Int).getD (x2.toNat * 2 + 1) 0)), (19, vb (decide ((([a1.X.A, a1.X.B, a1.Y.A, a1.Y.B] : List Int).getD (x2.toNat * 2 + 1) 0) > 600))), (27, vb true)] [] [] ?_
      exact q_J (true) hm
     ·replace hm := qA b6 hm
      refine q_vu [qf 3 b5, qf 8 b6] 2 [4] [(17, vp 1 1), (18, vi (([a1.X.A, a1.X.B, a1.Y.A, a1.Y.B] : List Int).getD (x2.toNat * 2 + 1) 0)), (19, vb (decide ((([a1.X.A, a1.X.B, a1.Y.A, a1.Y.B] : List Int).getD (x2.toNat * 2 + 1) 0) > 600))), (22, vp 1 0), (23, vi (([a1.X.A, a1.X.B, a1.Y.A, a1.Y.B] : List Int).getD (x2.toNat * 2 + 0) 0)), (24, vp 1 1), (25, vi (([a1.X.A, a1.X.B, a1.Y.A, a1.Y.B] : List Int).getD (x2.toNat * 2 + 1) 0)), (26, vb (decide ((([a1.X.A, a1.X.B, a1.Y.A, a1.Y.B] : List Int).getD (x2.toNat * 2 + 0) 0) ≥ (([a1.X.A, a1.X.B, a1.Y.A, a1.Y.B] : List Int).getD (x2.toNat * 2 + 1) 0)))), (27, vb (decide ((([a1.X.A, a1.X.B, a1.Y.A, a1.Y.B] : List Int).getD (x2.toNat * 2 + 0) 0) ≥ (([a1.X.A, a1.X.B, a1.Y.A, a1.Y.B] : List Int).getD (x2.toNat * 2 + 1) 0))))] [] [] ?_
      exact q_J (decide ((([a1.X.A, a1.X.B, a1.Y.A, a1.Y.B] : List Int).getD (x2.toNat * 2 + 0) 0) ≥ (([a1.X.A, a1.X.B, a1.Y.A, a1.Y.B] : List Int).getD (x2.toNat * 2 + 1) 0))) hm
  ·replace hm := qA b3 hm
   refine q_ex 0 ?_
   obtain rfl := Option.some.inj hm
   exact wF () (by kernel_rfl) (by kernel_rfl)
theorem qHH (a1 : Rect) (r : Bool) (hm : GJ a1 = some r) : CtX Tryz.prog globs 113 0 0 [.agg (qK a1)] [] (EL r) (SZ r) := by
 unfold GJ at hm
 refine q_E Tryz.f113 29 fun E => ?_
 refine q_sq ?_
 refine q_vn [] 0 ⟨[(1, vp 0 0)], [(0, bx 28 (qK a1))]⟩ ?_
 refine q_sq ?_
 refine q_sq ?_
 refine q_vn [] 1 ⟨[(9, va (qK a1)), (10, vi 0)], []⟩ ?_
 obtain ⟨u11, h10, hm⟩ := qD hm
 refine zI (nd Tryz.f113 52) 0 (by kernel_rfl) FUEL (fun o => CV) (fun v st => RetQ Tryz.prog Tryz.f113 (EL v) (SZ v) .ret st) u11 (q_hl (BG a1 0) (qEB E a1 FUEL 0 u11 h10)) ?_ ?_
 ·rintro v12 rfl st hr
  obtain rfl := Option.some.inj hm
  exact hr
 ·rintro o9 rfl
  replace hm : _ = some r := hm
  refine q_sq ?_
  refine q_vn [] 1 ⟨[(2, vb true)], []⟩ ?_
  obtain rfl := Option.some.inj hm
  refine q_rt ?_
  exact q_rm
def qMn (r : Worth_view × Bool) : V := .tup [.agg [cs r.1.product.Name, ci r.1.product.Thick, ci r.1.product.Width, ci r.1.product.Allow, ci r.1.product.Wane, tl e_i64 default r.1.product.Lengths, tl e_i64 default r.1.product.Prices, ci r.1.rect.X.A, ci r.1.rect.X.B, ci r.1.rect.Y.A, ci r.1.rect.Y.B, ci r.1.length, .own 0 0 3 r.1.zones.length, .own 1 0 7 r.1.defects.length], .one (cb r.2)]
def qMR (r : Worth_view × Bool) : List (Nat × (Nat × O)) := [(0, ro 0 162 3 r.1.zones.length (rf qN r.1.zones)), (1, ro 0 110 7 r.1.defects.length (rf qH r.1.defects))]
def qCj (a2 : List Defect) (a3 : qC) (a4 : Rect) (v23 : Int) (v25 : (List Worth_zone)) (v27 : Box) (x29 : Int) (l37 : List Defect) (l37n : Nat) : St :=
 ⟨[(8, vp 2 0), (13, vp 6 0), (14, vp 7 0), (83, vc (tl qH default a2)), (84, vi ((a2.length : Nat) : Int)), (85, vi x29)], [(2, bx 131 [cs (ByteArray.mk #[]), ci 0, ci 0, ci 0, ci 0, .emp, .emp, ci 0, ci 0, ci 0, ci 0, ci 0, .emp, .emp]), (5, ro 0 162 3 v25.length (rf qN v25)), (6, bx 131 [cs a3.Name, ci a3.Thick, ci a3.Width, ci a3.Allow, ci a3.Wane, tl e_i64 default a3.Lengths, tl e_i64 default a3.Prices, ci a4.X.A, ci a4.X.B, ci a4.Y.A, ci a4.Y.B, ci v23, .own 5 0 3 v25.length, .own 8 0 7 l37n]), (7, bx 108 (zC v27)), (8, ro 0 110 7 l37n (rf qH l37))]⟩
def HE (a2 : List Defect) (a3 : qC) (a4 : Rect) (v23 : Int) (v25 : (List Worth_zone)) (v27 : Box) (x29 : Int) (l30 : List Defect) (l30n : Nat) : St :=
 ⟨[(8, vp 2 0), (13, vp 6 0), (14, vp 7 0), (83, vc (tl qH default a2)), (84, vi ((a2.length : Nat) : Int)), (85, vi x29)], [(2, bx 131 [cs (ByteArray.mk #[]), ci 0, ci 0, ci 0, ci 0, .emp, .emp, ci 0, ci 0, ci 0, ci 0, ci 0, .emp, .emp]), (5, ro 0 162 3 v25.length (rf qN v25)), (6, bx 131 [cs a3.Name, ci a3.Thick, ci a3.Width, ci a3.Allow, ci a3.Wane, tl e_i64 default a3.Lengths, tl e_i64 default a3.Prices, ci a4.X.A, ci a4.X.B, ci a4.Y.A, ci a4.Y.B, ci v23, .own 5 0 3 v25.length, .own 8 0 7 l30n]), (7, bx 108 (zC v27)), (8, ro 0 110 7 l30n (rf qH l30))]⟩
def qBZ (a3 : qC) (a4 : Rect) (v23 : Int) (v25 : (List Worth_zone)) (l38 : List Defect) : St :=
 ⟨[(8, vp 2 0), (13, vp 6 0)], [(2, bx 131 [cs (ByteArray.mk #[]), ci 0, ci 0, ci 0, ci 0, .emp, .emp, ci 0, ci 0, ci 0, ci 0, ci 0, .emp, .emp]), (5, ro 0 162 3 v25.length (rf qN v25)), (6, bx 131 [cs a3.Name, ci a3.Thick, ci a3.Width, ci a3.Allow, ci a3.Wane, tl e_i64 default a3.Lengths, tl e_i64 default a3.Prices, ci a4.X.A, ci a4.X.B, ci a4.Y.A, ci a4.Y.B, ci v23, .own 5 0 3 v25.length, .own 8 0 7 l38.length]), (8, ro 0 110 7 l38.length (rf qH l38))]⟩
def qCp (a1 : List Slice) (a2 : List Defect) (a3 : qC) (a4 : Rect) (x21 : Bool) : St :=
 ⟨[(0, vc (tl qG default a1)), (1, vc (tl qH default a2)), (6, vp 0 0), (7, vp 1 0), (8, vp 2 0), (68, vb x21)], [(0, bx 58 (qE a3)), (1, bx 28 (qK a4)), (2, bx 131 [cs (ByteArray.mk #[]), ci 0, ci 0, ci 0, ci 0, .emp, .emp, ci 0, ci 0, ci 0, ci 0, ci 0, .emp, .emp])]⟩
def qCn (a1 : List Slice) (a2 : List Defect) (a3 : qC) (a4 : Rect) (x16 : Bool) : St :=
 ⟨[(0, vc (tl qG default a1)), (1, vc (tl qH default a2)), (6, vp 0 0), (7, vp 1 0), (8, vp 2 0), (35, vb x16)], [(0, bx 58 (qE a3)), (1, bx 28 (qK a4)), (2, bx 131 [cs (ByteArray.mk #[]), ci 0, ci 0, ci 0, ci 0, .emp, .emp, ci 0, ci 0, ci 0, ci 0, ci 0, .emp, .emp])]⟩
theorem qGq (E : Env 0) (a2 : List Defect) (a3 : qC) (a4 : Rect) (v23 : Int) (v25 : (List Worth_zone)) (v27 : Box) : ∀ (n : Nat) (x29 : Int) (l30 : List Defect) (l30n : Nat) (res : (List Defect)), l30.length = l30n → ZE a2 v27 n x29 l30 = some res → HL (kx E 100 0) (nd Tryz.f90 4084) (zN 0 (fun o => qBZ a3 a4 v23 v25 o) res) n (HE a2 a3 a4 v23 v25 v27 x29 l30 l30n) := by
 intro n
 induction n with
 | zero =>
  intro x29 l30 l30n res hl0 hm
  cases hm
 | succ n ih =>
  intro x29 l30 l30n res hl0 hm
  subst hl0
  refine qO ?_
  refine q_sq ?_
  refine q_vu [] 9 [] [(86, vb (decide (x29 < ((a2.length : Nat) : Int))))] [] [] ?_
  refine q_sq ?_
  refine q_cn (decide (x29 < ((a2.length : Nat) : Int))) (fun b31 => ?_) (fun b31 => ?_)
  ·replace hm := qB b31 hm
   refine q_sk ?_
   refine q_jn (ι := (List Defect) × Nat) (fun p => qCj a2 a3 a4 v23 v25 v27 x29 p.1 p.2) (fun p => p.1.length = p.2 ∧ NQ x29 (ZE a2 v27 n) p.1 = some res) ?_ ?_
   ·rintro ⟨l37, l37n⟩ ⟨el37, hm⟩
    replace el37 : l37.length = l37n := el37
    subst el37
    show H _ (qCj a2 a3 a4 v23 v25 v27 x29 l37 l37.length) _ _
    refine q_vu [] 11 [85] [(85, vi (w64 (x29 + 1)))] [] [] ?_
    exact q_hl (HE a2 a3 a4 v23 v25 v27 (w64 (x29 + 1)) l37 l37.length) (ih (w64 (x29 + 1)) l37 l37.length _ rfl hm)
   ·refine q_bk 1 ?_
    refine q_sq ?_
    obtain ⟨g32, hm⟩ := qI hm
    refine q_vu [qd 0 (Dir.none) (inb_of g32)] 9 [86] [(16, vp 9 0)] [] [(9, bx 110 [ci ((a2.getD x29.toNat default).Kind), ci ((((a2.getD x29.toNat default).Box).X).A), ci ((((a2.getD x29.toNat default).Box).X).B), ci ((((a2.getD x29.toNat default).Box).Y).A), ci ((((a2.getD x29.toNat default).Box).Y).B), ci ((((a2.getD x29.toNat default).Box).Z).A), ci ((((a2.getD x29.toNat default).Box).Z).B)])] ?_
    refine q_sq ?_
    obtain ⟨v33, h34, hm⟩ := qD hm
    refine q_vu [qc 2 [89, 90] 10 (CB (a2.getD x29.toNat default) v27 v33 h34)] 10 [] [(91, vb v33)] [] [] ?_
    refine q_cn v33 (fun b35 => ?_) (fun b35 => ?_)
    ·replace hm := qB b35 hm
     obtain ⟨g36, hm⟩ := qI hm
     refine q_vu [qd 3 (drw 10 0 (rf qH ([(a2.getD x29.toNat default)] : List Defect))) (litP qH default 7 (fun _ => rfl) ([(a2.getD x29.toNat default)] : List Defect) 1 rfl), qd 4 (drw 8 1 (rf qH (l30 ++ ([(a2.getD x29.toNat default)] : List Defect)))) (apP qH default l30 ([(a2.getD x29.toNat default)] : List Defect) l30.length 1 7 56 (1 ≤ 1) (Nat.le_refl _) rfl rfl (fun _ => rfl) (zS g36))] 10 [16, 91] [] [6, 8, 9] [(6, bx 131 [cs a3.Name, ci a3.Thick, ci a3.Width, ci a3.Allow, ci a3.Wane, tl e_i64 default a3.Lengths, tl e_i64 default a3.Prices, ci a4.X.A, ci a4.X.B, ci a4.Y.A, ci a4.Y.B, ci v23, .own 5 0 3 v25.length, .own 8 1 7 (l30.length + 1)]), (8, ro 1 110 7 (l30.length + 1) (rf qH (l30 ++ ([(a2.getD x29.toNat default)] : List Defect))))] ?_
     exact q_J ((l30 ++ ([(a2.getD x29.toNat default)] : List Defect)), (l30.length + 1)) ⟨(len_app rfl rfl), hm⟩
    ·replace hm := qA b35 hm
     refine q_sk ?_
     exact q_J (l30, l30.length) ⟨rfl, hm⟩
  ·replace hm := qA b31 hm
   refine q_ex 0 ?_
   obtain rfl := Option.some.inj hm
   exact zX (by kernel_rfl) (by kernel_rfl)
theorem qKU (a1 : List Slice) (a2 : List Defect) (a3 : qC) (a4 : Rect) (r : Worth_view × Bool) (hm : MU a1 a2 a3 a4 = some r) : CtX Tryz.prog globs 90 0 0 [.one (tl qG default a1), .one (tl qH default a2), .agg (qE a3), .agg (qK a4)] [] (qMn r) (qMR r) := by
 unfold MU at hm
 refine q_E Tryz.f90 100 fun E => ?_
 refine q_sq ?_
 refine q_vn [] 0 ⟨[(0, vc (tl qG default a1)), (1, vc (tl qH default a2)), (6, vp 0 0), (7, vp 1 0), (8, vp 2 0)], [(0, bx 58 (qE a3)), (1, bx 28 (qK a4)), (2, bx 131 [cs (ByteArray.mk #[]), ci 0, ci 0, ci 0, ci 0, .emp, .emp, ci 0, ci 0, ci 0, ci 0, ci 0, .emp, .emp])]⟩ ?_
 refine q_sq ?_
 refine q_jn (ι := Bool) (fun p => qCn a1 a2 a3 a4 p) (fun p => YX a1 a2 a3 a4 p = some r) ?_ ?_
 ·rintro x16 hm
  show H _ (qCn a1 a2 a3 a4 x16) _ _
  refine q_cn x16 (fun b17 => ?_) (fun b17 => ?_)
  ·replace hm := qB b17 hm
   refine q_sq ?_
   refine q_vu [] 4 [0, 1, 6, 7, 35] [(9, vb false)] [0, 1] [] ?_
   refine q_fn [.ownB 2 5 4 3 1 (rf e_i64 ([] : List Int))] ⟨[(8, vp 2 0), (9, vb false)], [(2, bx 131 [cs (ByteArray.mk #[]), ci 0, ci 0, ci 0, ci 0, .own 4 0 1 0, .emp, ci 0, ci 0, ci 0, ci 0, ci 0, .emp, .emp]), (4, ro 0 3 1 0 (rf e_i64 ([] : List Int)))]⟩ o0 ?_
   refine q_fn [.ownB 2 6 5 3 1 (rf e_i64 ([] : List Int))] ⟨[(8, vp 2 0), (9, vb false)], [(2, bx 131 [cs (ByteArray.mk #[]), ci 0, ci 0, ci 0, ci 0, .own 4 0 1 0, .own 5 0 1 0, ci 0, ci 0, ci 0, ci 0, ci 0, .emp, .emp]), (4, ro 0 3 1 0 (rf e_i64 ([] : List Int))), (5, ro 0 3 1 0 (rf e_i64 ([] : List Int)))]⟩ o0 ?_
   refine q_fn [.ownB 2 12 6 162 3 (rf qN ([] : List Worth_zone))] ⟨[(8, vp 2 0), (9, vb false)], [(2, bx 131 [cs (ByteArray.mk #[]), ci 0, ci 0, ci 0, ci 0, .own 4 0 1 0, .own 5 0 1 0, ci 0, ci 0, ci 0, ci 0, ci 0, .own 6 0 3 0, .emp]), (4, ro 0 3 1 0 (rf e_i64 ([] : List Int))), (5, ro 0 3 1 0 (rf e_i64 ([] : List Int))), (6, ro 0 162 3 0 (rf qN ([] : List Worth_zone)))]⟩ o0 ?_
   refine q_fn [.ownB 2 13 7 110 7 (rf qH ([] : List Defect))] ⟨[(8, vp 2 0), (9, vb false)], [(2, bx 131 [cs (ByteArray.mk #[]), ci 0, ci 0, ci 0, ci 0, .own 4 0 1 0, .own 5 0 1 0, ci 0, ci 0, ci 0, ci 0, ci 0, .own 6 0 3 0, .own 7 0 7 0]), (4, ro 0 3 1 0 (rf e_i64 ([] : List Int))), (5, ro 0 3 1 0 (rf e_i64 ([] : List Int))), (6, ro 0 162 3 0 (rf qN ([] : List Worth_zone))), (7, ro 0 110 7 0 (rf qH ([] : List Defect)))]⟩ o0 ?_
   refine q_fn [.len 4 (([] : List Int).length), .frz 4] ⟨[(8, vp 2 0), (9, vb false)], [(2, bx 131 [cs (ByteArray.mk #[]), ci 0, ci 0, ci 0, ci 0, tl e_i64 default ([] : List Int), .own 5 0 1 0, ci 0, ci 0, ci 0, ci 0, ci 0, .own 6 0 3 0, .own 7 0 7 0]), (5, ro 0 3 1 0 (rf e_i64 ([] : List Int))), (6, ro 0 162 3 0 (rf qN ([] : List Worth_zone))), (7, ro 0 110 7 0 (rf qH ([] : List Defect)))]⟩ (o1 (And.intro (And.intro (show 0 = ([] : List Int).length from rfl) (show 0 = ([] : List Int).length from rfl)) (Nat.le_refl (([] : List Int).length)))) ?_
   refine q_fn [.len 5 (([] : List Int).length), .frz 5] ⟨[(8, vp 2 0), (9, vb false)], [(2, bx 131 [cs (ByteArray.mk #[]), ci 0, ci 0, ci 0, ci 0, tl e_i64 default ([] : List Int), tl e_i64 default ([] : List Int), ci 0, ci 0, ci 0, ci 0, ci 0, .own 6 0 3 0, .own 7 0 7 0]), (6, ro 0 162 3 0 (rf qN ([] : List Worth_zone))), (7, ro 0 110 7 0 (rf qH ([] : List Defect)))]⟩ (o1 (And.intro (And.intro (show 0 = ([] : List Int).length from rfl) (show 0 = ([] : List Int).length from rfl)) (Nat.le_refl (([] : List Int).length)))) ?_
   refine q_fn [.len 6 (([] : List Worth_zone).length)] ⟨[(8, vp 2 0), (9, vb false)], [(2, bx 131 [cs (ByteArray.mk #[]), ci 0, ci 0, ci 0, ci 0, tl e_i64 default ([] : List Int), tl e_i64 default ([] : List Int), ci 0, ci 0, ci 0, ci 0, ci 0, .own 6 0 3 (([] : List Worth_zone).length), .own 7 0 7 0]), (6, ro 0 162 3 (([] : List Worth_zone).length) (rf qN ([] : List Worth_zone))), (7, ro 0 110 7 0 (rf qH ([] : List Defect)))]⟩ (o1 (And.intro (show 0 = ([] : List Worth_zone).length from rfl) (show 0 = ([] : List Worth_zone).length from rfl))) ?_
   refine q_fn [.len 7 (([] : List Defect).length)] ⟨[(8, vp 2 0), (9, vb false)], [(2, bx 131 [cs (ByteArray.mk #[]), ci 0, ci 0, ci 0, ci 0, tl e_i64 default ([] : List Int), tl e_i64 default ([] : List Int), ci 0, ci 0, ci 0, ci 0, ci 0, .own 6 0 3 (([] : List Worth_zone).length), .own 7 0 7 (([] : List Defect).length)]), (6, ro 0 162 3 (([] : List Worth_zone).length) (rf qN ([] : List Worth_zone))), (7, ro 0 110 7 (([] : List Defect).length) (rf qH ([] : List Defect)))]⟩ (o1 (And.intro (show 0 = ([] : List Defect).length from rfl) (show 0 = ([] : List Defect).length from rfl))) ?_
   obtain rfl := Option.some.inj hm
   refine qR 6 0 (by kernel_rfl) ?_
   refine qR 7 1 (by kernel_rfl) ?_
   refine q_rt ?_
   exact q_rm
  ·replace hm := qA b17 hm
   refine q_sk ?_
   refine q_sq ?_
   obtain ⟨v18, h19, hm⟩ := qD hm
   refine q_vu [qc 1 [38] 4 (zaQ a3 v18 h19)] 4 [35] [(10, vi v18.1), (11, vi v18.2)] [] [] ?_
   refine q_sq ?_
   refine q_vu [] 4 [] [(12, vp 4 0)] [] [(4, bx 147 [ci (w64 (a4.X.B - a4.X.A)), ci (w64 (a4.Y.B - a4.Y.A))])] ?_
   refine q_sq ?_
   refine q_jn (ι := Bool) (fun p => qCp a1 a2 a3 a4 p) (fun p => RZ a1 a2 a3 a4 p = some r) ?_ ?_
   ·rintro x21 hm
    show H _ (qCp a1 a2 a3 a4 x21) _ _
    refine q_cn x21 (fun b22 => ?_) (fun b22 => ?_)
    ·replace hm := qB b22 hm
     refine q_sq ?_
     refine q_vu [] 5 [0, 1, 6, 7, 68] [(9, vb false)] [0, 1] [] ?_
     refine q_fn [.ownB 2 5 5 3 1 (rf e_i64 ([] : List Int))] ⟨[(8, vp 2 0), (9, vb false)], [(2, bx 131 [cs (ByteArray.mk #[]), ci 0, ci 0, ci 0, ci 0, .own 5 0 1 0, .emp, ci 0, ci 0, ci 0, ci 0, ci 0, .emp, .emp]), (5, ro 0 3 1 0 (rf e_i64 ([] : List Int)))]⟩ o0 ?_
     refine q_fn [.ownB 2 6 6 3 1 (rf e_i64 ([] : List Int))] ⟨[(8, vp 2 0), (9, vb false)], [(2, bx 131 [cs (ByteArray.mk #[]), ci 0, ci 0, ci 0, ci 0, .own 5 0 1 0, .own 6 0 1 0, ci 0, ci 0, ci 0, ci 0, ci 0, .emp, .emp]), (5, ro 0 3 1 0 (rf e_i64 ([] : List Int))), (6, ro 0 3 1 0 (rf e_i64 ([] : List Int)))]⟩ o0 ?_
     refine q_fn [.ownB 2 12 7 162 3 (rf qN ([] : List Worth_zone))] ⟨[(8, vp 2 0), (9, vb false)], [(2, bx 131 [cs (ByteArray.mk #[]), ci 0, ci 0, ci 0, ci 0, .own 5 0 1 0, .own 6 0 1 0, ci 0, ci 0, ci 0, ci 0, ci 0, .own 7 0 3 0, .emp]), (5, ro 0 3 1 0 (rf e_i64 ([] : List Int))), (6, ro 0 3 1 0 (rf e_i64 ([] : List Int))), (7, ro 0 162 3 0 (rf qN ([] : List Worth_zone)))]⟩ o0 ?_
     refine q_fn [.ownB 2 13 8 110 7 (rf qH ([] : List Defect))] ⟨[(8, vp 2 0), (9, vb false)], [(2, bx 131 [cs (ByteArray.mk #[]), ci 0, ci 0, ci 0, ci 0, .own 5 0 1 0, .own 6 0 1 0, ci 0, ci 0, ci 0, ci 0, ci 0, .own 7 0 3 0, .own 8 0 7 0]), (5, ro 0 3 1 0 (rf e_i64 ([] : List Int))), (6, ro 0 3 1 0 (rf e_i64 ([] : List Int))), (7, ro 0 162 3 0 (rf qN ([] : List Worth_zone))), (8, ro 0 110 7 0 (rf qH ([] : List Defect)))]⟩ o0 ?_
     refine q_fn [.len 5 (([] : List Int).length), .frz 5] ⟨[(8, vp 2 0), (9, vb false)], [(2, bx 131 [cs (ByteArray.mk #[]), ci 0, ci 0, ci 0, ci 0, tl e_i64 default ([] : List Int), .own 6 0 1 0, ci 0, ci 0, ci 0, ci 0, ci 0, .own 7 0 3 0, .own 8 0 7 0]), (6, ro 0 3 1 0 (rf e_i64 ([] : List Int))), (7, ro 0 162 3 0 (rf qN ([] : List Worth_zone))), (8, ro 0 110 7 0 (rf qH ([] : List Defect)))]⟩ (o1 (And.intro (And.intro (show 0 = ([] : List Int).length from rfl) (show 0 = ([] : List Int).length from rfl)) (Nat.le_refl (([] : List Int).length)))) ?_
     refine q_fn [.len 6 (([] : List Int).length), .frz 6] ⟨[(8, vp 2 0), (9, vb false)], [(2, bx 131 [cs (ByteArray.mk #[]), ci 0, ci 0, ci 0, ci 0, tl e_i64 default ([] : List Int), tl e_i64 default ([] : List Int), ci 0, ci 0, ci 0, ci 0, ci 0, .own 7 0 3 0, .own 8 0 7 0]), (7, ro 0 162 3 0 (rf qN ([] : List Worth_zone))), (8, ro 0 110 7 0 (rf qH ([] : List Defect)))]⟩ (o1 (And.intro (And.intro (show 0 = ([] : List Int).length from rfl) (show 0 = ([] : List Int).length from rfl)) (Nat.le_refl (([] : List Int).length)))) ?_
     refine q_fn [.len 7 (([] : List Worth_zone).length)] ⟨[(8, vp 2 0), (9, vb false)], [(2, bx 131 [cs (ByteArray.mk #[]), ci 0, ci 0, ci 0, ci 0, tl e_i64 default ([] : List Int), tl e_i64 default ([] : List Int), ci 0, ci 0, ci 0, ci 0, ci 0, .own 7 0 3 (([] : List Worth_zone).length), .own 8 0 7 0]), (7, ro 0 162 3 (([] : List Worth_zone).length) (rf qN ([] : List Worth_zone))), (8, ro 0 110 7 0 (rf qH ([] : List Defect)))]⟩ (o1 (And.intro (show 0 = ([] : List Worth_zone).length from rfl) (show 0 = ([] : List Worth_zone).length from rfl))) ?_
     refine q_fn [.len 8 (([] : List Defect).length)] ⟨[(8, vp 2 0), (9, vb false)], [(2, bx 131 [cs (ByteArray.mk #[]), ci 0, ci 0, ci 0, ci 0, tl e_i64 default ([] : List Int), tl e_i64 default ([] : List Int), ci 0, ci 0, ci 0, ci 0, ci 0, .own 7 0 3 (([] : List Worth_zone).length), .own 8 0 7 (([] : List Defect).length)]), (7, ro 0 162 3 (([] : List Worth_zone).length) (rf qN ([] : List Worth_zone))), (8, ro 0 110 7 (([] : List Defect).length) (rf qH ([] : List Defect)))]⟩ (o1 (And.intro (show 0 = ([] : List Defect).length from rfl) (show 0 = ([] : List Defect).length from rfl))) ?_
     obtain rfl := Option.some.inj hm
     refine qR 7 0 (by kernel_rfl) ?_
     refine qR 8 1 (by kernel_rfl) ?_
     refine q_rt ?_
     exact q_rm
    ·replace hm := qA b22 hm
     refine q_sk ?_
     refine q_sq ?_
     obtain ⟨v23, h24, hm⟩ := qD hm
     obtain ⟨v25, h26, hm⟩ := qD hm
     refine q_du [qc 3 [72] 5 (SB a1 v23 h24), qc 6 [74, 75] 5 (qJe a1 a4 v25 h26)] [0, 0, 0, 4, 0, 0, 60, 127, 0, 511] 5 [0, 6, 7, 68] [(13, vp 6 0)] [0, 1] [(5, ro 0 162 3 v25.length (rf qN v25)), (6, bx 131 [cs a3.Name, ci a3.Thick, ci a3.Width, ci a3.Allow, ci a3.Wane, tl e_i64 default a3.Lengths, tl e_i64 default a3.Prices, ci a4.X.A, ci a4.X.B, ci a4.Y.A, ci a4.Y.B, ci v23, .own 5 0 3 v25.length, .emp])] ?_
     refine q_sq ?_
     obtain ⟨v27, h28, hm⟩ := qD hm
     refine q_vu [qd 4 (dex (cen [] [] 7 0 (qAR v27) (PU v27) [78, 81] [5])) (yJ (K := (kx E 100 0)) (b := false) ⟨[(78, va [cs a3.Name, ci a3.Thick, ci a3.Width, ci a3.Allow, ci a3.Wane, tl e_i64 default a3.Lengths, tl e_i64 default a3.Prices, ci a4.X.A, ci a4.X.B, ci a4.Y.A, ci a4.Y.B, ci v23, .own 5 0 3 v25.length, .emp]), (81, va [ci 0, ci v23])], [(5, ro 0 162 3 v25.length (rf qN v25))]⟩ (opAt (rg Tryz.f90 254) 4) [] [] 7 (o1 (Nat.le_refl v25.length)) rfl (CtX.emp (xs' := [.agg [cs a3.Name, ci a3.Thick, ci a3.Width, ci a3.Allow, ci a3.Wane, tl e_i64 default a3.Lengths, tl e_i64 default a3.Prices, ci a4.X.A, ci a4.X.B, ci a4.Y.A, ci a4.Y.B, ci v23, tl qN default v25, .emp], .agg [ci 0, ci v23]]) (OP (Worth_view.mk a3 a4 v23 v25 ([] : List Defect)) (Span.mk 0 v23) v27 h28) (And.intro (And.intro rfl (And.intro rfl (And.intro rfl (And.intro rfl (And.intro rfl (And.intro rfl (And.intro rfl (And.intro rfl (And.intro rfl (And.intro rfl (And.intro rfl (And.intro rfl (And.intro rfl (And.intro rfl trivial)))))))))))))) (And.intro (And.intro rfl (And.intro rfl trivial)) trivial))) (.inr ⟨(by kernel_rfl), qGI v27⟩) (by kernel_rfl))] 7 [] [(14, vp 7 0)] [] [(7, bx 108 (zC v27))] ?_
     refine q_sq ?_
     refine q_sq ?_
     refine q_vu [] 8 [1] [(83, vc (tl qH default a2)), (84, vi ((a2.length : Nat) : Int)), (85, vi 0)] [] [] ?_
     refine q_fn [.ownB 6 13 8 110 7 (rf qH ([] : List Defect))] ⟨[(8, vp 2 0), (13, vp 6 0), (14, vp 7 0), (83, vc (tl qH default a2)), (84, vi ((a2.length : Nat) : Int)), (85, vi 0)], [(2, bx 131 [cs (ByteArray.mk #[]), ci 0, ci 0, ci 0, ci 0, .emp, .emp, ci 0, ci 0, ci 0, ci 0, ci 0, .emp, .emp]), (5, ro 0 162 3 v25.length (rf qN v25)), (6, bx 131 [cs a3.Name, ci a3.Thick, ci a3.Width, ci a3.Allow, ci a3.Wane, tl e_i64 default a3.Lengths, tl e_i64 default a3.Prices, ci a4.X.A, ci a4.X.B, ci a4.Y.A, ci a4.Y.B, ci v23, .own 5 0 3 v25.length, .own 8 0 7 0]), (7, bx 108 (zC v27)), (8, ro 0 110 7 0 (rf qH ([] : List Defect)))]⟩ o0 ?_
     obtain ⟨o39, h40, hm⟩ := qD hm
     refine zF (nd Tryz.f90 4084) 0 (by kernel_rfl) FUEL (fun o => qBZ a3 a4 v23 v25 o) o39 (q_hl (HE a2 a3 a4 v23 v25 v27 0 ([] : List Defect) 0) (qGq E a2 a3 a4 v23 v25 v27 FUEL 0 ([] : List Defect) 0 o39 rfl h40)) ?_
     refine q_sq ?_
     refine q_vu [] 9 [13] [(9, vb true)] [2, 6] [(2, bx 131 [cs a3.Name, ci a3.Thick, ci a3.Width, ci a3.Allow, ci a3.Wane, tl e_i64 default a3.Lengths, tl e_i64 default a3.Prices, ci a4.X.A, ci a4.X.B, ci a4.Y.A, ci a4.Y.B, ci v23, .own 5 0 3 v25.length, .own 8 0 7 o39.length])] ?_
     obtain rfl := Option.some.inj hm
     refine qR 5 0 (by kernel_rfl) ?_
     refine qR 8 1 (by kernel_rfl) ?_
     refine q_rt ?_
     exact q_rm
   ·rcases Bool.eq_false_or_eq_true (!(((w64 (a4.X.B - a4.X.A)) == v18.1) && (((w64 (a4.Y.B - a4.Y.A)) == v18.2) && true))) with b20 | b20
    ·replace hm := qB b20 hm
     refine q_vu [qf 5 b20] 5 [10, 11, 12] [(68, vb (!(((w64 (a4.X.B - a4.X.A)) == v18.2) && (((w64 (a4.Y.B - a4.Y.A)) == v18.1) && true))))] [4] [] ?_
     exact q_J (!(((w64 (a4.X.B - a4.X.A)) == v18.2) && (((w64 (a4.Y.B - a4.Y.A)) == v18.1) && true))) hm
    ·replace hm := qA b20 hm
     refine q_vu [qf 5 b20] 5 [10, 11, 12] [(68, vb false)] [4] [] ?_
     exact q_J (false) hm
 ·obtain ⟨v5, h6, hm⟩ := qD hm
  rcases Bool.eq_false_or_eq_true (v5 != 0) with b7 | b7
  ·replace hm := qB b7 hm
   refine q_vu [qc 1 [17] 3 (JX a1 v5 h6), qf 3 b7] 3 [] [(35, vb true)] [] [] ?_
   exact q_J (true) hm
  ·replace hm := qA b7 hm
   obtain ⟨v8, h9, hm⟩ := qD hm
   rcases Bool.eq_false_or_eq_true (v8 != 0) with b10 | b10
   ·replace hm := qB b10 hm
    refine q_vu [qc 1 [17] 3 (JX a1 v5 h6), qf 3 b7, qk 5 [20, 21] 3 ⟨[(20, vb false), (21, vc (tl qH default a2))], []⟩ (UD a2 v8 h9), qf 8 b10] 3 [] [(35, vb true)] [] [] ?_
    exact q_J (true) hm
   ·replace hm := qA b10 hm
    obtain ⟨v11, h12, hm⟩ := qD hm
    rcases Bool.eq_false_or_eq_true (v11 != 0) with b13 | b13
    ·replace hm := qB b13 hm
     refine q_vu [qc 1 [17] 3 (JX a1 v5 h6), qf 3 b7, qk 5 [20, 21] 3 ⟨[(20, vb false), (21, vc (tl qH default a2))], []⟩ (UD a2 v8 h9), qf 8 b10, qd 10 (drw 3 0 (rf qE ([a3] : List qC))) (litP qE default 7 (fun _ => rfl) ([a3] : List qC) 1 rfl), qd 11 (dex (cen [] [] 4 0 (KC v11) (QT v11) [25, 27] [3])) (yJ (K := (kx E 100 0)) (xs' := [.one (.lst 1 (rf qE ([a3] : List qC)))]) (b := false) ⟨[(25, vb false), (27, vo 3 0 7 1)], [(3, ro 0 58 7 1 (rf qE ([a3] : List qC)))]⟩ (opAt (rg Tryz.f90 12) 11) [] [] 4 (o1 (Nat.le_refl 1)) (by simp only [tl, rf, show ([a3] : List qC).length = 1 from rfl]) (RK ([a3] : List qC) v11 h12) (.inr ⟨(by kernel_rfl), qCw v11⟩) (by kernel_rfl)), qf 14 b13] 3 [] [(35, vb true)] [] [] ?_
     exact q_J (true) hm
    ·replace hm := qA b13 hm
     obtain ⟨v14, h15, hm⟩ := qD hm
     refine q_vu [qc 1 [17] 3 (JX a1 v5 h6), qf 3 b7, qk 5 [20, 21] 3 ⟨[(20, vb false), (21, vc (tl qH default a2))], []⟩ (UD a2 v8 h9), qf 8 b10, qd 10 (drw 3 0 (rf qE ([a3] : List qC))) (litP qE default 7 (fun _ => rfl) ([a3] : List qC) 1 rfl), qd 11 (dex (cen [] [] 4 0 (KC v11) (QT v11) [25, 27] [3])) (yJ (K := (kx E 100 0)) (xs' := [.one (.lst 1 (rf qE ([a3] : List qC)))]) (b := false) ⟨[(25, vb false), (27, vo 3 0 7 1)], [(3, ro 0 58 7 1 (rf qE ([a3] : List qC)))]⟩ (opAt (rg Tryz.f90 12) 11) [] [] 4 (o1 (Nat.le_refl 1)) (by simp only [tl, rf, show ([a3] : List qC).length = 1 from rfl]) (RK ([a3] : List qC) v11 h12) (.inr ⟨(by kernel_rfl), qCw v11⟩) (by kernel_rfl)), qf 14 b13, qk 16 [31, 32] 4 ⟨[(31, vb false), (32, va (qK a4))], []⟩ (qHH a4 v14 h15)] 3 [] [(35, vb (!v14))] [] [] ?_
     exact q_J (!v14) hm
set_option maxRecDepth 100000
def qJu (r : Bool) : V := vb r
def qJi (r : Bool) : List (Nat × (Nat × O)) := []
def CQ (x3 : Bool) : St :=
 ⟨[(2, vb x3)], []⟩
theorem SD (a1 : Int) (r : Bool) (hm : KW a1 = some r) : CtX Tryz.prog globs 88 0 0 [.one (ci a1)] [] (qJu r) (qJi r) := by
 unfold KW at hm
 refine q_E Tryz.f88 9 fun E => ?_
 refine q_sq ?_
 refine q_vn [] 0 ⟨[(0, vi a1)], []⟩ ?_
 refine q_jn (ι := Bool) (fun p => CQ p) (fun p => UI p = some r) ?_ ?_
 ·rintro x3 hm
  show H _ (CQ x3) _ _
  obtain rfl := Option.some.inj hm
  refine q_rt ?_
  exact q_rm
 ·rcases Bool.eq_false_or_eq_true (decide (a1 ≥ 1)) with b2 | b2
  ·replace hm := qB b2 hm
   refine q_vn [qf 2 b2] 0 ⟨[(2, vb (decide (a1 ≤ 20000)))], []⟩ ?_
   exact q_J (decide (a1 ≤ 20000)) hm
  ·replace hm := qA b2 hm
   refine q_vn [qf 2 b2] 0 ⟨[(2, vb false)], []⟩ ?_
   exact q_J (false) hm
open Go.Proofs
set_option maxHeartbeats 4000000
set_option maxRecDepth 100000
def qIg (r : Bool) : V := vb r
def qJt (r : Bool) : List (Nat × (Nat × O)) := []
def CT (x3 : Bool) : St :=
 ⟨[(2, vb x3)], []⟩
theorem qBO (a1 : Int) (r : Bool) (hm : PE a1 = some r) : CtX Tryz.prog globs 89 0 0 [.one (ci a1)] [] (qIg r) (qJt r) := by
 unfold PE at hm
 refine q_E Tryz.f89 9 fun E => ?_
 refine q_sq ?_
 refine q_vn [] 0 ⟨[(0, vi a1)], []⟩ ?_
 refine q_jn (ι := Bool) (fun p => CT p) (fun p => US p = some r) ?_ ?_
 ·rintro x3 hm
  show H _ (CT x3) _ _
  obtain rfl := Option.some.inj hm
  refine q_rt ?_
  exact q_rm
 ·rcases Bool.eq_false_or_eq_true (decide (a1 ≥ 0)) with b2 | b2
  ·replace hm := qB b2 hm
   refine q_vn [qf 2 b2] 0 ⟨[(2, vb (decide (a1 ≤ 1000000)))], []⟩ ?_
   exact q_J (decide (a1 ≤ 1000000)) hm
  ·replace hm := qA b2 hm
   refine q_vn [qf 2 b2] 0 ⟨[(2, vb false)], []⟩ ?_
   exact q_J (false) hm
end Saw
end Go.SL
