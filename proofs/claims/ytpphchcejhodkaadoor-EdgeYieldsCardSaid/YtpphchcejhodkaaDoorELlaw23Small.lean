import Derived.Test.YtpphchcejhodkaaDoorEBase
import Derived.Test.YtpphchcejhodkaaDoorEFa1
import Derived.Test.YtpphchcejhodkaaDoorELlaw19Short
set_option linter.unusedVariables false
set_option linter.unusedSimpArgs false
namespace Go.SL
namespace Saw
open Go.Proofs
set_option maxHeartbeats 4000000
set_option maxRecDepth 100000
def TR (r : Bool) : V := vb r
def TX (r : Bool) : List (Nat × (Nat × O)) := []
def FC (a1 : qP) (x9 : Int) : St :=
 ⟨[(1, vp 0 0), (3, vi x9)], [(0, bx 34 (zI a1))]⟩
def OV (a1 : qP) : St :=
 ⟨[(1, vp 0 0)], [(0, bx 34 (zI a1))]⟩
def FH (a1 : qP) (x17 : Int) : St :=
 ⟨[(1, vp 0 0), (4, vi x17)], [(0, bx 34 (zI a1))]⟩
def qAq (a1 : qP) : St :=
 ⟨[(1, vp 0 0)], [(0, bx 34 (zI a1))]⟩
def qAm (a1 : qP) (x30 : Bool) : St :=
 ⟨[(1, vp 0 0), (104, vb x30)], [(0, bx 34 (zI a1))]⟩
def qAs (a1 : qP) (x7 : Bool) : St :=
 ⟨[(1, vp 0 0), (26, vb x7)], [(0, bx 34 (zI a1))]⟩
theorem qEv (E : Env 0) (a1 : qP) : ∀ (n : Nat) (x9 : Int) (res : Bool ⊕ Unit), ZU a1 n x9 = some res → HL (kx E 113 0) (nd Tryd.f4 116) (wW 0 (fun o => OV a1) (fun v st => RetQ Tryd.prog Tryd.f4 (TR v) (TX v) .ret st) res) n (FC a1 x9) := by
 intro n
 induction n with
 | zero =>
  intro x9 res hm
  cases hm
 | succ n ih =>
  intro x9 res hm
  refine qQ ?_
  refine q_sq ?_
  refine q_sq ?_
  refine q_vu [] 1 [] [(31, vb (decide (x9 < ((a1.Solid.length : Nat) : Int))))] [] [] ?_
  refine q_cn (decide (x9 < ((a1.Solid.length : Nat) : Int))) (fun b10 => ?_) (fun b10 => ?_)
  ·replace hm := qA b10 hm
   refine q_sk ?_
   refine q_sq ?_
   refine q_bk 1 ?_
   refine q_sq ?_
   obtain ⟨g11, hm⟩ := qM hm
   refine q_vu [qd 3 (Dir.none) (inb_of g11)] 1 [31] [(42, vb (decide ((((((a1.Solid.getD x9.toNat default).Sec).Rows).length : Nat) : Int) > 130)))] [] [] ?_
   refine q_cn (decide ((((((a1.Solid.getD x9.toNat default).Sec).Rows).length : Nat) : Int) > 130)) (fun b12 => ?_) (fun b12 => ?_)
   ·replace hm := qA b12 hm
    refine q_sq ?_
    refine q_vn [] 1 ⟨[(2, vb false)], []⟩ ?_
    obtain rfl := Option.some.inj hm
    refine q_rt ?_
    refine zB false ?_
    exact q_rm
   ·replace hm := qB b12 hm
    refine q_sk ?_
    refine q_vu [] 1 [3, 42] [(3, vi (w64 (x9 + 1)))] [] [] ?_
    exact q_hl (FC a1 (w64 (x9 + 1))) (ih (w64 (x9 + 1)) _ hm)
  ·replace hm := qB b10 hm
   refine q_ex 0 ?_
   obtain rfl := Option.some.inj hm
   exact jE () (by kernel_rfl) (by kernel_rfl)
theorem qEx (E : Env 0) (a1 : qP) : ∀ (n : Nat) (x17 : Int) (res : Bool ⊕ Unit), ZT a1 n x17 = some res → HL (kx E 113 0) (nd Tryd.f4 244) (wW 2 (fun o => qAq a1) (fun v st => RetQ Tryd.prog Tryd.f4 (TR v) (TX v) .ret st) res) n (FH a1 x17) := by
 intro n
 induction n with
 | zero =>
  intro x17 res hm
  cases hm
 | succ n ih =>
  intro x17 res hm
  refine qQ ?_
  refine q_sq ?_
  refine q_sq ?_
  refine q_vu [] 1 [] [(47, vb (decide (x17 < ((a1.Products.length : Nat) : Int))))] [] [] ?_
  refine q_cn (decide (x17 < ((a1.Products.length : Nat) : Int))) (fun b18 => ?_) (fun b18 => ?_)
  ·replace hm := qA b18 hm
   refine q_sk ?_
   refine q_sq ?_
   refine q_bk 3 ?_
   refine q_sq ?_
   obtain ⟨g19, hm⟩ := qM hm
   refine q_vu [qd 3 (Dir.none) (inb_of g19)] 1 [47] [(57, vb (decide (((((a1.Products.getD x17.toNat default).Lengths).length : Nat) : Int) > 4)))] [] [] ?_
   refine q_cn (decide (((((a1.Products.getD x17.toNat default).Lengths).length : Nat) : Int) > 4)) (fun b20 => ?_) (fun b20 => ?_)
   ·replace hm := qA b20 hm
    refine q_sq ?_
    refine q_vn [] 1 ⟨[(2, vb false)], []⟩ ?_
    obtain rfl := Option.some.inj hm
    refine q_rt ?_
    refine zB false ?_
    exact q_rm
   ·replace hm := qB b20 hm
    refine q_sk ?_
    refine q_vu [] 1 [4, 57] [(4, vi (w64 (x17 + 1)))] [] [] ?_
    exact q_hl (FH a1 (w64 (x17 + 1))) (ih (w64 (x17 + 1)) _ hm)
  ·replace hm := qB b18 hm
   refine q_ex 2 ?_
   obtain rfl := Option.some.inj hm
   exact jE () (by kernel_rfl) (by kernel_rfl)
theorem qHQ (a1 : qP) (r : Bool) (hm : BW a1 = some r) : CtX Tryd.prog globs 4 0 0 [.agg (zI a1)] [] (TR r) (TX r) := by
 unfold BW at hm
 refine q_E Tryd.f4 113 fun E => ?_
 refine q_sq ?_
 refine q_vn [] 0 ⟨[(1, vp 0 0)], [(0, bx 34 (zI a1))]⟩ ?_
 refine q_sq ?_
 refine q_jn (ι := Bool) (fun p => qAs a1 p) (fun p => JW a1 p = some r) ?_ ?_
 ·rintro x7 hm
  show H _ (qAs a1 x7) _ _
  refine q_cn x7 (fun b8 => ?_) (fun b8 => ?_)
  ·replace hm := qA b8 hm
   refine q_sq ?_
   refine q_vn [] 1 ⟨[(2, vb false)], []⟩ ?_
   obtain rfl := Option.some.inj hm
   refine q_rt ?_
   exact q_rm
  ·replace hm := qB b8 hm
   refine q_sk ?_
   refine q_sq ?_
   refine q_sq ?_
   refine q_vu [] 1 [26] [(3, vi 0)] [] [] ?_
   obtain ⟨u15, h14, hm⟩ := qC hm
   refine zP (nd Tryd.f4 116) 0 (by kernel_rfl) FUEL (fun o => OV a1) (fun v st => RetQ Tryd.prog Tryd.f4 (TR v) (TX v) .ret st) u15 (q_hl (FC a1 0) (qEv E a1 FUEL 0 u15 h14)) ?_ ?_
   ·rintro v16 rfl st hr
    obtain rfl := Option.some.inj hm
    exact hr
   ·rintro o13 rfl
    replace hm : _ = some r := hm
    refine q_sq ?_
    refine q_sq ?_
    refine q_vu [] 1 [] [(4, vi 0)] [] [] ?_
    obtain ⟨u23, h22, hm⟩ := qC hm
    refine zP (nd Tryd.f4 244) 2 (by kernel_rfl) FUEL (fun o => qAq a1) (fun v st => RetQ Tryd.prog Tryd.f4 (TR v) (TX v) .ret st) u23 (q_hl (FH a1 0) (qEx E a1 FUEL 0 u23 h22)) ?_ ?_
    ·rintro v24 rfl st hr
     obtain rfl := Option.some.inj hm
     exact hr
    ·rintro o21 rfl
     replace hm : _ = some r := hm
     refine q_sq ?_
     refine q_jn (ι := Bool) (fun p => qAm a1 p) (fun p => yG a1 p = some r) ?_ ?_
     ·rintro x30 hm
      show H _ (qAm a1 x30) _ _
      refine q_cn x30 (fun b31 => ?_) (fun b31 => ?_)
      ·replace hm := qA b31 hm
       refine q_sq ?_
       refine q_vn [] 1 ⟨[(2, vb false)], []⟩ ?_
       obtain rfl := Option.some.inj hm
       refine q_rt ?_
       exact q_rm
      ·replace hm := qB b31 hm
       refine q_sk ?_
       refine q_sq ?_
       obtain ⟨v32, h33, hm⟩ := qC hm
       refine q_dn [qc 2 [106] 1 (qF9 a1.Solid v32 h33), qd 3 (Dir.none) (show (12 : Int) ≠ 0 by decide)] [0, 1, 3, 7, 0, 16, 48, 127, 255] 1 ⟨[(2, vb (decide ((w64 (Int.tdiv v32 12)) ≤ a1.Saw.Step)))], []⟩ ?_
       obtain rfl := Option.some.inj hm
       refine q_rt ?_
       exact q_rm
     ·rcases Bool.eq_false_or_eq_true (decide (a1.Saw.Pitch < 5)) with b25 | b25
      ·replace hm := qA b25 hm
       refine q_vu [qf 4 b25] 1 [] [(104, vb true)] [] [] ?_
       exact q_J (true) hm
      ·replace hm := qB b25 hm
       rcases Bool.eq_false_or_eq_true (decide (a1.Saw.Step < 1)) with b26 | b26
       ·replace hm := qA b26 hm
        refine q_vu [qf 4 b25, qf 10 b26] 1 [] [(104, vb true)] [] [] ?_
        exact q_J (true) hm
       ·replace hm := qB b26 hm
        rcases Bool.eq_false_or_eq_true (decide (a1.Strip.X.A < (-1000))) with b27 | b27
        ·replace hm := qA b27 hm
         refine q_vu [qf 4 b25, qf 10 b26, qf 17 b27] 1 [] [(104, vb true)] [] [] ?_
         exact q_J (true) hm
        ·replace hm := qB b27 hm
         rcases Bool.eq_false_or_eq_true (decide (a1.Strip.X.B > 1000)) with b28 | b28
         ·replace hm := qA b28 hm
          refine q_vu [qf 4 b25, qf 10 b26, qf 17 b27, qf 24 b28] 1 [] [(104, vb true)] [] [] ?_
          exact q_J (true) hm
         ·replace hm := qB b28 hm
          rcases Bool.eq_false_or_eq_true (decide (a1.Strip.X.B > a1.Strip.X.A)) with b29 | b29
          ·replace hm := qA b29 hm
           refine q_vu [qf 4 b25, qf 10 b26, qf 17 b27, qf 24 b28, qf 34 b29] 1 [] [(104, vb (decide ((w64 (a1.Strip.X.B - a1.Strip.X.A)) > 300)))] [] [] ?_
           exact q_J (decide ((w64 (a1.Strip.X.B - a1.Strip.X.A)) > 300)) hm
          ·replace hm := qB b29 hm
           refine q_vu [qf 4 b25, qf 10 b26, qf 17 b27, qf 24 b28, qf 34 b29] 1 [] [(104, vb false)] [] [] ?_
           exact q_J (false) hm
 ·rcases Bool.eq_false_or_eq_true (decide (((a1.Solid.length : Nat) : Int) > 6)) with b2 | b2
  ·replace hm := qA b2 hm
   refine q_vu [qf 4 b2] 1 [] [(26, vb true)] [] [] ?_
   exact q_J (true) hm
  ·replace hm := qB b2 hm
   rcases Bool.eq_false_or_eq_true (decide (((a1.Defects.length : Nat) : Int) > 70)) with b3 | b3
   ·replace hm := qA b3 hm
    refine q_vu [qf 4 b2, qf 10 b3] 1 [] [(26, vb true)] [] [] ?_
    exact q_J (true) hm
   ·replace hm := qB b3 hm
    rcases Bool.eq_false_or_eq_true (decide (((a1.Products.length : Nat) : Int) > 4)) with b4 | b4
    ·replace hm := qA b4 hm
     refine q_vu [qf 4 b2, qf 10 b3, qf 16 b4] 1 [] [(26, vb true)] [] [] ?_
     exact q_J (true) hm
    ·replace hm := qB b4 hm
     obtain ⟨v5, h6, hm⟩ := qC hm
     refine q_vu [qf 4 b2, qf 10 b3, qf 16 b4, qk 19 [21, 23] 1 ⟨[(21, vb false), (23, vc (tl qE default a1.Products))], []⟩ (qHf a1.Products v5 h6)] 1 [] [(26, vb (!v5))] [] [] ?_
     exact q_J (!v5) hm
end Saw
end Go.SL
