import Derived.Test.YtpphchcejhodkaaDoorEBase
set_option linter.unusedVariables false
set_option linter.unusedSimpArgs false
namespace Go.SL
namespace Saw
open Go.Proofs
set_option maxHeartbeats 4000000
set_option maxRecDepth 100000
def AU (r : Bool) : V := vb r
def AT (r : Bool) : List (Nat × (Nat × O)) := []
def CF (a1 : List Product) (x2 : Int) (x8 : Bool) : St :=
 ⟨[(0, vc (tl qE default a1)), (3, vi x2), (38, vb x8)], []⟩
def FA (a1 : List Product) (x2 : Int) : St :=
 ⟨[(0, vc (tl qE default a1)), (3, vi x2)], []⟩
def qAn : St :=
 ⟨[], []⟩
theorem qEE (E : Env 0) (a1 : List Product) : ∀ (n : Nat) (x2 : Int) (res : Bool ⊕ Unit), zQ a1 n x2 = some res → HL (kx E 39 0) (nd Tryd.f11 52) (wW 0 (fun o => qAn) (fun v st => RetQ Tryd.prog Tryd.f11 (AU v) (AT v) .ret st) res) n (FA a1 x2) := by
 intro n
 induction n with
 | zero =>
  intro x2 res hm
  cases hm
 | succ n ih =>
  intro x2 res hm
  refine qQ ?_
  refine q_sq ?_
  refine q_sq ?_
  refine q_vu [] 0 [] [(7, vb (decide (x2 < ((a1.length : Nat) : Int))))] [] [] ?_
  refine q_cn (decide (x2 < ((a1.length : Nat) : Int))) (fun b3 => ?_) (fun b3 => ?_)
  ·replace hm := qA b3 hm
   refine q_sk ?_
   refine q_sq ?_
   refine q_bk 1 ?_
   refine q_jn (ι := Bool) (fun p => CF a1 x2 p) (fun p => JY x2 (zQ a1 n) p = some res) ?_ ?_
   ·rintro x8 hm
    show H _ (CF a1 x2 x8) _ _
    refine q_cn x8 (fun b9 => ?_) (fun b9 => ?_)
    ·replace hm := qA b9 hm
     refine q_sq ?_
     refine q_vn [] 0 ⟨[(2, vb false)], []⟩ ?_
     obtain rfl := Option.some.inj hm
     refine q_rt ?_
     refine zB false ?_
     exact q_rm
    ·replace hm := qB b9 hm
     refine q_sk ?_
     refine q_vu [] 0 [3, 38] [(3, vi (w64 (x2 + 1)))] [] [] ?_
     exact q_hl (FA a1 (w64 (x2 + 1))) (ih (w64 (x2 + 1)) _ hm)
   ·rcases Bool.eq_false_or_eq_true (decide (x2 ≥ 20)) with b4 | b4
    ·replace hm := qA b4 hm
     refine q_vu [qf 2 b4] 0 [7] [(38, vb true)] [] [] ?_
     exact q_J (true) hm
    ·replace hm := qB b4 hm
     obtain ⟨g5, hm⟩ := qM hm
     rcases Bool.eq_false_or_eq_true (decide (((((a1.getD x2.toNat default).Lengths).length : Nat) : Int) > 12)) with b6 | b6
     ·replace hm := qA b6 hm
      refine q_vu [qf 2 b4, qd 5 (Dir.none) (inb_of g5), qf 11 b6] 0 [7] [(38, vb true)] [] [] ?_
      exact q_J (true) hm
     ·replace hm := qB b6 hm
      rcases Bool.eq_false_or_eq_true (decide (((((a1.getD x2.toNat default).Prices).length : Nat) : Int) > 12)) with b7 | b7
      ·replace hm := qA b7 hm
       refine q_vu [qf 2 b4, qd 5 (Dir.none) (inb_of g5), qf 11 b6, qd 14 (Dir.none) (inb_of g5), qf 20 b7] 0 [7] [(38, vb true)] [] [] ?_
       exact q_J (true) hm
      ·replace hm := qB b7 hm
       refine q_vu [qf 2 b4, qd 5 (Dir.none) (inb_of g5), qf 11 b6, qd 14 (Dir.none) (inb_of g5), qf 20 b7, qd 23 (Dir.none) (inb_of g5)] 0 [7] [(38, vb (decide (((((a1.getD x2.toNat default).Name).size : Nat) : Int) > 100)))] [] [] ?_
       exact q_J (decide (((((a1.getD x2.toNat default).Name).size : Nat) : Int) > 100)) hm
  ·replace hm := qB b3 hm
   refine q_ex 0 ?_
   obtain rfl := Option.some.inj hm
   exact jE () (by kernel_rfl) (by kernel_rfl)
theorem qHf (a1 : List Product) (r : Bool) (hm : BX a1 = some r) : CtX Tryd.prog globs 11 0 0 [.one (tl qE default a1)] [] (AU r) (AT r) := by
 unfold BX at hm
 refine q_E Tryd.f11 39 fun E => ?_
 refine q_sq ?_
 refine q_vn [] 0 ⟨[(0, vc (tl qE default a1))], []⟩ ?_
 refine q_sq ?_
 refine q_sq ?_
 refine q_vu [] 0 [] [(3, vi 0)] [] [] ?_
 obtain ⟨u12, h11, hm⟩ := qC hm
 refine zP (nd Tryd.f11 52) 0 (by kernel_rfl) FUEL (fun o => qAn) (fun v st => RetQ Tryd.prog Tryd.f11 (AU v) (AT v) .ret st) u12 (q_hl (FA a1 0) (qEE E a1 FUEL 0 u12 h11)) ?_ ?_
 ·rintro v13 rfl st hr
  obtain rfl := Option.some.inj hm
  exact hr
 ·rintro o10 rfl
  replace hm : _ = some r := hm
  refine q_sq ?_
  refine q_vn [] 0 ⟨[(2, vb true)], []⟩ ?_
  obtain rfl := Option.some.inj hm
  refine q_rt ?_
  exact q_rm
end Saw
end Go.SL
