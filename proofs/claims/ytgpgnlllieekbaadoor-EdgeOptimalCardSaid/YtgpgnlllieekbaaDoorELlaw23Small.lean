import Derived.Test.YtgpgnlllieekbaaDoorEBase
import Derived.Test.YtgpgnlllieekbaaDoorEFa8
import Derived.Test.YtgpgnlllieekbaaDoorELlaw19Short
set_option linter.unusedVariables false
set_option linter.unusedSimpArgs false
namespace Go.SL
namespace Saw
open Go.Proofs
set_option maxHeartbeats 4000000

def law23_Small_x (r : Bool) : V := vb r

def law23_Small_o (r : Bool) : List (Nat × (Nat × O)) := []

theorem law23_Small_f (r : Bool) : Frozen (law23_Small_o r) := by
 intro i k o h
 unfold law23_Small_o at h
 cases h

def law23_Small_L2_S (a1 : Law23_Given) (x9 : Int) : St :=
 ⟨[(1, vp 0 0), (3, vi x9)], [(0, bx 41 (e_Law23_Given a1))]⟩

def law23_Small_L2_T (a1 : Law23_Given) : St :=
 ⟨[(1, vp 0 0)], [(0, bx 41 (e_Law23_Given a1))]⟩

def law23_Small_L3_S (a1 : Law23_Given) (x17 : Int) : St :=
 ⟨[(1, vp 0 0), (4, vi x17)], [(0, bx 41 (e_Law23_Given a1))]⟩

def law23_Small_L3_T (a1 : Law23_Given) : St :=
 ⟨[(1, vp 0 0)], [(0, bx 41 (e_Law23_Given a1))]⟩

def law23_Small_k4_S (a1 : Law23_Given) (x30 : Bool) : St :=
 ⟨[(1, vp 0 0), (104, vb x30)], [(0, bx 41 (e_Law23_Given a1))]⟩

def law23_Small_k1_S (a1 : Law23_Given) (x7 : Bool) : St :=
 ⟨[(1, vp 0 0), (26, vb x7)], [(0, bx 41 (e_Law23_Given a1))]⟩

set_option maxRecDepth 100000 in
theorem law23_Small_L2_ok (E : Env 0) (a1 : Law23_Given) : ∀ (n : Nat) (x9 : Int) (res : Bool ⊕ Unit), law23_Small_L2 a1 n x9 = some res → HL (kx E 113 0) (nd Tryd.f13 116) (loopQ 0 (fun o => law23_Small_L2_T a1) (fun v st => RetQ Tryd.prog Tryd.f13 (law23_Small_x v) (law23_Small_o v) .ret st) res) n (law23_Small_L2_S a1 x9) := by
 intro n
 induction n with
 | zero =>
  intro x9 res hm
  cases hm
 | succ n ih =>
  intro x9 res hm
  refine HL_succ ?_
  refine q_sq ?_
  refine q_sq ?_
  refine q_vu [] 1 [] [(31, vb (decide (x9 < ((a1.Solid.length : Nat) : Int))))] [] [] ?_
  refine q_cn (decide (x9 < ((a1.Solid.length : Nat) : Int))) (fun b10 => ?_) (fun b10 => ?_)
  ·replace hm := bif_t b10 hm
   refine q_sk ?_
   refine q_sq ?_
   refine q_bk 1 ?_
   refine q_sq ?_
   obtain ⟨g11, hm⟩ := bif_n hm
   refine q_vu [qd 3 (Dir.none) (inb_of g11)] 1 [31] [(42, vb (decide ((((((a1.Solid.getD x9.toNat default).Sec).Rows).length : Nat) : Int) > 130)))] [] [] ?_
   refine q_cn (decide ((((((a1.Solid.getD x9.toNat default).Sec).Rows).length : Nat) : Int) > 130)) (fun b12 => ?_) (fun b12 => ?_)
   ·replace hm := bif_t b12 hm
    refine q_sq ?_
    refine q_vn [] 1 ⟨[(2, vb false)], []⟩ ?_
    obtain rfl := Option.some.inj hm
    refine q_rt ?_
    refine L1_ret false ?_
    exact q_rm
   ·replace hm := bif_f b12 hm
    refine q_sk ?_
    refine q_vu [] 1 [3, 42] [(3, vi (w64 (x9 + 1)))] [] [] ?_
    exact q_hl (law23_Small_L2_S a1 (w64 (x9 + 1))) (ih (w64 (x9 + 1)) _ hm)
  ·replace hm := bif_f b10 hm
   refine q_ex 0 ?_
   obtain rfl := Option.some.inj hm
   exact L1_mk () (by kernel_rfl) (by kernel_rfl)

set_option maxRecDepth 100000 in
theorem law23_Small_L3_ok (E : Env 0) (a1 : Law23_Given) : ∀ (n : Nat) (x17 : Int) (res : Bool ⊕ Unit), law23_Small_L3 a1 n x17 = some res → HL (kx E 113 0) (nd Tryd.f13 244) (loopQ 2 (fun o => law23_Small_L3_T a1) (fun v st => RetQ Tryd.prog Tryd.f13 (law23_Small_x v) (law23_Small_o v) .ret st) res) n (law23_Small_L3_S a1 x17) := by
 intro n
 induction n with
 | zero =>
  intro x17 res hm
  cases hm
 | succ n ih =>
  intro x17 res hm
  refine HL_succ ?_
  refine q_sq ?_
  refine q_sq ?_
  refine q_vu [] 1 [] [(47, vb (decide (x17 < ((a1.Products.length : Nat) : Int))))] [] [] ?_
  refine q_cn (decide (x17 < ((a1.Products.length : Nat) : Int))) (fun b18 => ?_) (fun b18 => ?_)
  ·replace hm := bif_t b18 hm
   refine q_sk ?_
   refine q_sq ?_
   refine q_bk 3 ?_
   refine q_sq ?_
   obtain ⟨g19, hm⟩ := bif_n hm
   refine q_vu [qd 3 (Dir.none) (inb_of g19)] 1 [47] [(57, vb (decide (((((a1.Products.getD x17.toNat default).Lengths).length : Nat) : Int) > 4)))] [] [] ?_
   refine q_cn (decide (((((a1.Products.getD x17.toNat default).Lengths).length : Nat) : Int) > 4)) (fun b20 => ?_) (fun b20 => ?_)
   ·replace hm := bif_t b20 hm
    refine q_sq ?_
    refine q_vn [] 1 ⟨[(2, vb false)], []⟩ ?_
    obtain rfl := Option.some.inj hm
    refine q_rt ?_
    refine L1_ret false ?_
    exact q_rm
   ·replace hm := bif_f b20 hm
    refine q_sk ?_
    refine q_vu [] 1 [4, 57] [(4, vi (w64 (x17 + 1)))] [] [] ?_
    exact q_hl (law23_Small_L3_S a1 (w64 (x17 + 1))) (ih (w64 (x17 + 1)) _ hm)
  ·replace hm := bif_f b18 hm
   refine q_ex 2 ?_
   obtain rfl := Option.some.inj hm
   exact L1_mk () (by kernel_rfl) (by kernel_rfl)

set_option maxRecDepth 100000 in
theorem law23_Small_ok (a1 : Law23_Given) (r : Bool) (hm : law23_Small a1 = some r) : CtX Tryd.prog globs 13 0 0 [.agg (e_Law23_Given a1)] [] (law23_Small_x r) (law23_Small_o r) := by
 unfold law23_Small at hm
 refine q_E Tryd.f13 113 fun E => ?_
 refine q_sq ?_
 refine q_vn [] 0 ⟨[(1, vp 0 0)], [(0, bx 41 (e_Law23_Given a1))]⟩ ?_
 refine q_sq ?_
 refine q_jn (ι := Bool) (fun p => law23_Small_k1_S a1 p) (fun p => law23_Small_k1 a1 p = some r) ?_ ?_
 ·rintro x7 hm
  show H _ (law23_Small_k1_S a1 x7) _ _
  refine q_cn x7 (fun b8 => ?_) (fun b8 => ?_)
  ·replace hm := bif_t b8 hm
   refine q_sq ?_
   refine q_vn [] 1 ⟨[(2, vb false)], []⟩ ?_
   obtain rfl := Option.some.inj hm
   refine q_rt ?_
   exact q_rm
  ·replace hm := bif_f b8 hm
   refine q_sk ?_
   refine q_sq ?_
   refine q_sq ?_
   refine q_vu [] 1 [26] [(3, vi 0)] [] [] ?_
   obtain ⟨u15, h14, hm⟩ := bind_s hm
   refine R_loop1 (nd Tryd.f13 116) 0 (by kernel_rfl) FUEL (fun o => law23_Small_L2_T a1) (fun v st => RetQ Tryd.prog Tryd.f13 (law23_Small_x v) (law23_Small_o v) .ret st) u15 (q_hl (law23_Small_L2_S a1 0) (law23_Small_L2_ok E a1 FUEL 0 u15 h14)) ?_ ?_
   ·rintro v16 rfl st hr
    obtain rfl := Option.some.inj hm
    exact hr
   ·rintro o13 rfl
    replace hm : _ = some r := hm
    refine q_sq ?_
    refine q_sq ?_
    refine q_vu [] 1 [] [(4, vi 0)] [] [] ?_
    obtain ⟨u23, h22, hm⟩ := bind_s hm
    refine R_loop1 (nd Tryd.f13 244) 2 (by kernel_rfl) FUEL (fun o => law23_Small_L3_T a1) (fun v st => RetQ Tryd.prog Tryd.f13 (law23_Small_x v) (law23_Small_o v) .ret st) u23 (q_hl (law23_Small_L3_S a1 0) (law23_Small_L3_ok E a1 FUEL 0 u23 h22)) ?_ ?_
    ·rintro v24 rfl st hr
     obtain rfl := Option.some.inj hm
     exact hr
    ·rintro o21 rfl
     replace hm : _ = some r := hm
     refine q_sq ?_
     refine q_jn (ι := Bool) (fun p => law23_Small_k4_S a1 p) (fun p => law23_Small_k4 a1 p = some r) ?_ ?_
     ·rintro x30 hm
      show H _ (law23_Small_k4_S a1 x30) _ _
      refine q_cn x30 (fun b31 => ?_) (fun b31 => ?_)
      ·replace hm := bif_t b31 hm
       refine q_sq ?_
       refine q_vn [] 1 ⟨[(2, vb false)], []⟩ ?_
       obtain rfl := Option.some.inj hm
       refine q_rt ?_
       exact q_rm
      ·replace hm := bif_f b31 hm
       refine q_sk ?_
       refine q_sq ?_
       obtain ⟨v32, h33, hm⟩ := bind_s hm
       refine q_dn [qc 2 [106] 1 (ref11_Length_ok a1.Solid v32 h33), qd 3 (Dir.none) (show (12 : Int) ≠ 0 by decide)] [0, 1, 3, 7, 0, 16, 48, 127, 255] 1 ⟨[(2, vb (decide ((w64 (Int.tdiv v32 12)) ≤ a1.Saw.Step)))], []⟩ ?_
       obtain rfl := Option.some.inj hm
       refine q_rt ?_
       exact q_rm
     ·rcases Bool.eq_false_or_eq_true (decide (a1.Saw.Pitch < 5)) with b25 | b25
      ·replace hm := bif_t b25 hm
       refine q_vu [qf 4 b25] 1 [] [(104, vb true)] [] [] ?_
       exact q_J (true) hm
      ·replace hm := bif_f b25 hm
       rcases Bool.eq_false_or_eq_true (decide (a1.Saw.Step < 1)) with b26 | b26
       ·replace hm := bif_t b26 hm
        refine q_vu [qf 4 b25, qf 10 b26] 1 [] [(104, vb true)] [] [] ?_
        exact q_J (true) hm
       ·replace hm := bif_f b26 hm
        rcases Bool.eq_false_or_eq_true (decide (a1.Strip.X.A < (-1000))) with b27 | b27
        ·replace hm := bif_t b27 hm
         refine q_vu [qf 4 b25, qf 10 b26, qf 17 b27] 1 [] [(104, vb true)] [] [] ?_
         exact q_J (true) hm
        ·replace hm := bif_f b27 hm
         rcases Bool.eq_false_or_eq_true (decide (a1.Strip.X.B > 1000)) with b28 | b28
         ·replace hm := bif_t b28 hm
          refine q_vu [qf 4 b25, qf 10 b26, qf 17 b27, qf 24 b28] 1 [] [(104, vb true)] [] [] ?_
          exact q_J (true) hm
         ·replace hm := bif_f b28 hm
          rcases Bool.eq_false_or_eq_true (decide (a1.Strip.X.B > a1.Strip.X.A)) with b29 | b29
          ·replace hm := bif_t b29 hm
           refine q_vu [qf 4 b25, qf 10 b26, qf 17 b27, qf 24 b28, qf 34 b29] 1 [] [(104, vb (decide ((w64 (a1.Strip.X.B - a1.Strip.X.A)) > 300)))] [] [] ?_
           exact q_J (decide ((w64 (a1.Strip.X.B - a1.Strip.X.A)) > 300)) hm
          ·replace hm := bif_f b29 hm
           refine q_vu [qf 4 b25, qf 10 b26, qf 17 b27, qf 24 b28, qf 34 b29] 1 [] [(104, vb false)] [] [] ?_
           exact q_J (false) hm
 ·rcases Bool.eq_false_or_eq_true (decide (((a1.Solid.length : Nat) : Int) > 6)) with b2 | b2
  ·replace hm := bif_t b2 hm
   refine q_vu [qf 4 b2] 1 [] [(26, vb true)] [] [] ?_
   exact q_J (true) hm
  ·replace hm := bif_f b2 hm
   rcases Bool.eq_false_or_eq_true (decide (((a1.Defects.length : Nat) : Int) > 70)) with b3 | b3
   ·replace hm := bif_t b3 hm
    refine q_vu [qf 4 b2, qf 10 b3] 1 [] [(26, vb true)] [] [] ?_
    exact q_J (true) hm
   ·replace hm := bif_f b3 hm
    rcases Bool.eq_false_or_eq_true (decide (((a1.Products.length : Nat) : Int) > 4)) with b4 | b4
    ·replace hm := bif_t b4 hm
     refine q_vu [qf 4 b2, qf 10 b3, qf 16 b4] 1 [] [(26, vb true)] [] [] ?_
     exact q_J (true) hm
    ·replace hm := bif_f b4 hm
     obtain ⟨v5, h6, hm⟩ := bind_s hm
     refine q_vu [qf 4 b2, qf 10 b3, qf 16 b4, qk 19 [21, 23] 1 ⟨[(21, vb false), (23, vc (tl e_Product default a1.Products))], []⟩ (law19_Short_ok a1.Products v5 h6)] 1 [] [(26, vb (!v5))] [] [] ?_
     exact q_J (!v5) hm

end Saw
end Go.SL
