import Derived.Test.YtgpgnlllieekbaaGreatDoorEBase
set_option linter.unusedVariables false
set_option linter.unusedSimpArgs false
namespace Go.SL
namespace Saw
open Go.Proofs
set_option maxHeartbeats 4000000
set_option maxRecDepth 100000
def SS (r : Bool) : V := vb r
def EH (r : Bool) : List (Nat × (Nat × O)) := []
def CV (a1 : List qA) (x2 : Int) (x8 : Bool) : St :=
 ⟨[(0, vc (tl qE default a1)), (3, vi x2), (38, vb x8)], []⟩
def BF (a1 : List qA) (x2 : Int) : St :=
 ⟨[(0, vc (tl qE default a1)), (3, vi x2)], []⟩
def CY : St :=
 ⟨[], []⟩
theorem qDK (E : Env 0) (a1 : List qA) : ∀ (n : Nat) (x2 : Int) (res : Bool ⊕ Unit), zU a1 n x2 = some res → HL (kx E 39 0) (nd Tryz.f13 52) (zZ 0 (fun o => CY) (fun v st => RetQ Tryz.prog Tryz.f13 (SS v) (EH v) .ret st) res) n (BF a1 x2) := by
 intro n
 induction n with
 | zero =>
  intro x2 res hm
  cases hm
 | succ n ih =>
  intro x2 res hm
  refine qN ?_
  refine q_sq ?_
  refine q_sq ?_
  refine q_vu [] 0 [] [(7, vb (decide (x2 < ((a1.length : Nat) : Int))))] [] [] ?_
  refine q_cn (decide (x2 < ((a1.length : Nat) : Int))) (fun b3 => ?_) (fun b3 => ?_)
  ·replace hm := qC b3 hm
   refine q_sk ?_
   refine q_sq ?_
   refine q_bk 1 ?_
   refine q_jn (ι := Bool) (fun p => CV a1 x2 p) (fun p => JB x2 (zU a1 n) p = some res) ?_ ?_
   ·rintro x8 hm
    show H _ (CV a1 x2 x8) _ _
    refine q_cn x8 (fun b9 => ?_) (fun b9 => ?_)
    ·replace hm := qC b9 hm
     refine q_sq ?_
     refine q_vn [] 0 ⟨[(2, vb false)], []⟩ ?_
     obtain rfl := Option.some.inj hm
     refine q_rt ?_
     refine qR false ?_
     exact q_rm
    ·replace hm := qB b9 hm
     refine q_sk ?_
     refine q_vu [] 0 [3, 38] [(3, vi (w64 (x2 + 1)))] [] [] ?_
     exact q_hl (BF a1 (w64 (x2 + 1))) (ih (w64 (x2 + 1)) _ hm)
   ·rcases Bool.eq_false_or_eq_true (decide (x2 ≥ 20)) with b4 | b4
    ·replace hm := qC b4 hm
     refine q_vu [qf 2 b4] 0 [7] [(38, vb true)] [] [] ?_
     exact q_J (true) hm
    ·replace hm := qB b4 hm
     obtain ⟨g5, hm⟩ := qI hm
     rcases Bool.eq_false_or_eq_true (decide (((((a1.getD x2.toNat default).Lengths).length : Nat) : Int) > 12)) with b6 | b6
     ·replace hm := qC b6 hm
      refine q_vu [qf 2 b4, qd 5 (Dir.none) (inb_of g5), qf 11 b6] 0 [7] [(13, vc (tl qE default a1)), (14, vi x2), (15, vc (.lptr (qE (a1.getD x2.toNat default)))), (16, vc (.lptr ((qE (a1.getD x2.toNat default)).drop 5))), (17, vc (tl e_i64 default ((a1.getD x2.toNat default).Lengths))), (18, vi ((((a1.getD x2.toNat default).Lengths).length : Nat) : Int)), (19, vb (decide (((((a1.getD x2.toNat default).Lengths).length : Nat) : Int) > 12))), (38, vb true)] [] [] ?_
      exact q_J (true) hm
     ·replace hm := qB b6 hm
      rcases Bool.eq_false_or_eq_true (decide (((((a1.getD x2.toNat default).Prices).length : Nat) : Int) > 12)) with b7 | b7
      ·replace hm := qC b7 hm
       refine q_vu [qf 2 b4, qd 5 (Dir.none) (inb_of g5), qf 11 b6, qd 14 (Dir.none) (inb_of g5), qf 20 b7] 0 [7] [(13, vc (tl qE default a1)), (14, vi x2), (15, vc (.lptr (qE (a1.getD x2.toNat default)))), (16, vc (.lptr ((qE (a1.getD x2.toNat default)).drop 5))), (17, vc (tl e_i64 default ((a1.getD x2.toNat default).Lengths))), (18, vi ((((a1.getD x2.toNat default).Lengths).length : Nat) : Int)), (19, vb (decide (((((a1.getD x2.toNat default).Lengths).length : Nat) : Int) > 12))), (22, vc (tl qE default a1)), (23, vi x2), (24, vc (.lptr (qE (a1.getD x2.toNat default)))), (25, vc (.lptr ((qE (a1.getD x2.toNat default)).drop 6))), (26, vc (tl e_i64 default ((a1.getD x2.toNat default).Prices))), (27, vi ((((a1.getD x2.toNat default).Prices).length : Nat) : Int)), (28, vb (decide (((((a1.getD x2.toNat default).Prices).length : Nat) : Int) > 12))), (38, vb true)] [] [] ?_
       exact q_J (true) hm
      ·replace hm := qB b7 hm
       refine q_vu [qf 2 b4, qd 5 (Dir.none) (inb_of g5), qf 11 b6, qd 14 (Dir.none) (inb_of g5), qf 20 b7, qd 23 (Dir.none) (inb_of g5)] 0 [7] [(13, vc (tl qE default a1)), (14, vi x2), (15, vc (.lptr (qE (a1.getD x2.toNat default)))), (16, vc (.lptr ((qE (a1.getD x2.toNat default)).drop 5))), (17, vc (tl e_i64 default ((a1.getD x2.toNat default).Lengths))), (18, vi ((((a1.getD x2.toNat default).Lengths).length : Nat) : Int)), (19, vb (decide (((((a1.getD x2.toNat default).Lengths).length : Nat) : Int) > 12))), (22, vc (tl qE default a1)), (23, vi x2), (24, vc (.lptr (qE (a1.getD x2.toNat default)))), (25, vc (.lptr ((qE (a1.getD x2.toNat default)).drop 6))), (26, vc (tl e_i64 default ((a1.getD x2.toNat default).Prices))), (27, vi ((((a1.getD x2.toNat default).Prices).length : Nat) : Int)), (28, vb (decide (((((a1.getD x2.toNat default).Prices).length : Nat) : Int) > 12))), (31, vc (tl qE default a1)), (32, vi x2), (33, vc (.lptr (qE (a1.getD x2.toNat default)))), (34, vc (.lptr (qE (a1.getD x2.toNat default)))), (35, vc (cs ((a1.getD x2.toNat default).Name))), (36, vi ((((a1.getD x2.toNat default).Name).size : Nat) : Int)), (37, vb (decide (((((a1.getD x2.toNat default).Name).size : Nat) : Int) > 100))), (38, vb (decide (((((a1.getD x2.toNat default).Name).size : Nat) : Int) > 100)))] [] [] ?_
       exact q_J (decide (((((a1.getD x2.toNat default).Name).size : Nat) : Int) > 100)) hm
  ·replace hm := qB b3 hm
   refine q_ex 0 ?_
   obtain rfl := Option.some.inj hm
   exact wC () (by kernel_rfl) (by kernel_rfl)
theorem qHi (a1 : List qA) (r : Bool) (hm : GQ a1 = some r) : CtX Tryz.prog globs 13 0 0 [.one (tl qE default a1)] [] (SS r) (EH r) := by
 unfold GQ at hm
 refine q_E Tryz.f13 39 fun E => ?_
 refine q_sq ?_
 refine q_vn [] 0 ⟨[(0, vc (tl qE default a1))], []⟩ ?_
 refine q_sq ?_
 refine q_sq ?_
 refine q_vu [] 0 [] [(3, vi 0)] [] [] ?_
 obtain ⟨u12, h11, hm⟩ := qD hm
 refine zH (nd Tryz.f13 52) 0 (by kernel_rfl) FUEL (fun o => CY) (fun v st => RetQ Tryz.prog Tryz.f13 (SS v) (EH v) .ret st) u12 (q_hl (BF a1 0) (qDK E a1 FUEL 0 u12 h11)) ?_ ?_
 ·rintro v13 rfl st hr
  obtain rfl := Option.some.inj hm
  exact hr
 ·rintro o10 rfl
  replace hm : _ = some r := hm
  refine q_sq ?_
  refine q_vn [] 0 ⟨[(2, vb true)], []⟩ ?_
  obtain rfl := Option.some.inj hm
  refine q_rt ?_
  exact q_rm
end Saw
end Go.SL
