import Derived.Test.YtgpgnlllieekbaaDoorEBase
import Derived.Test.YtgpgnlllieekbaaDoorEFa7
set_option linter.unusedVariables false
set_option linter.unusedSimpArgs false
namespace Go.SL
namespace Saw
open Go.Proofs
set_option maxHeartbeats 4000000

def ref11_Check_x (r : Int) : V := vi r

def ref11_Check_o (r : Int) : List (Nat × (Nat × O)) := []

theorem ref11_Check_f (r : Int) : Frozen (ref11_Check_o r) := by
 intro i k o h
 unfold ref11_Check_o at h
 cases h

def ref11_Check_k2_S (a1 : List Slice) (x4 : Int) (x5 : Int) (x13 : Bool) : St :=
 ⟨[(0, vc (tl e_Slice default a1)), (3, vi x4), (4, vi x5), (50, vb x13)], []⟩

def ref11_Check_L1_S (a1 : List Slice) (x4 : Int) (x5 : Int) : St :=
 ⟨[(0, vc (tl e_Slice default a1)), (3, vi x4), (4, vi x5)], []⟩

def ref11_Check_L1_T : St :=
 ⟨[], []⟩

set_option maxRecDepth 100000 in
theorem ref11_Check_L1_ok (E : Env 0) (a1 : List Slice) : ∀ (n : Nat) (x4 : Int) (x5 : Int) (res : Int ⊕ Unit), ref11_Check_L1 a1 n x4 x5 = some res → HL (kx E 58 0) (nd Tryd.f54 500) (loopQ 0 (fun o => ref11_Check_L1_T) (fun v st => RetQ Tryd.prog Tryd.f54 (ref11_Check_x v) (ref11_Check_o v) .ret st) res) n (ref11_Check_L1_S a1 x4 x5) := by
 intro n
 induction n with
 | zero =>
  intro x4 x5 res hm
  cases hm
 | succ n ih =>
  intro x4 x5 res hm
  refine HL_succ ?_
  refine q_sq ?_
  refine q_sq ?_
  refine q_vu [] 0 [] [(15, vb (decide (x5 < ((a1.length : Nat) : Int))))] [] [] ?_
  refine q_cn (decide (x5 < ((a1.length : Nat) : Int))) (fun b6 => ?_) (fun b6 => ?_)
  ·replace hm := bif_t b6 hm
   refine q_sk ?_
   refine q_sq ?_
   refine q_bk 1 ?_
   refine q_sq ?_
   refine q_sq ?_
   obtain ⟨g7, hm⟩ := bif_n hm
   obtain ⟨v8, h9, hm⟩ := bind_s hm
   refine q_vu [qd 2 (Dir.none) (inb_of g7), qc 5 [22] 0 (ref10_Check_ok ((a1.getD x5.toNat default).Sec) v8 h9)] 0 [15] [(5, vi v8)] [] [] ?_
   refine q_sq ?_
   refine q_vu [] 0 [] [(25, vb (v8 != 0))] [] [] ?_
   refine q_cn (v8 != 0) (fun b10 => ?_) (fun b10 => ?_)
   ·replace hm := bif_t b10 hm
    refine q_sq ?_
    refine q_vn [] 0 ⟨[(2, vi v8)], []⟩ ?_
    obtain rfl := Option.some.inj hm
    refine q_rt ?_
    refine L1_ret v8 ?_
    exact q_rm
   ·replace hm := bif_f b10 hm
    refine q_sk ?_
    refine q_sq ?_
    refine q_sq ?_
    refine q_vu [qd 2 (Dir.none) (inb_of g7)] 0 [5, 25] [(34, vb ((((((a1.getD x5.toNat default).Sec).Rows).length : Nat) : Int) == 0))] [] [] ?_
    refine q_cn ((((((a1.getD x5.toNat default).Sec).Rows).length : Nat) : Int) == 0) (fun b11 => ?_) (fun b11 => ?_)
    ·replace hm := bif_t b11 hm
     refine q_sq ?_
     refine q_vn [] 0 ⟨[(2, vi 18)], []⟩ ?_
     obtain rfl := Option.some.inj hm
     refine q_rt ?_
     refine L1_ret 18 ?_
     exact q_rm
    ·replace hm := bif_f b11 hm
     refine q_sk ?_
     refine q_sq ?_
     refine q_jn (ι := Bool) (fun p => ref11_Check_k2_S a1 x4 x5 p) (fun p => ref11_Check_k2 a1 x4 x5 (ref11_Check_L1 a1 n) p = some res) ?_ ?_
     ·rintro x13 hm
      show H _ (ref11_Check_k2_S a1 x4 x5 x13) _ _
      refine q_cn x13 (fun b14 => ?_) (fun b14 => ?_)
      ·replace hm := bif_t b14 hm
       refine q_sq ?_
       refine q_vn [] 0 ⟨[(2, vi 9)], []⟩ ?_
       obtain rfl := Option.some.inj hm
       refine q_rt ?_
       refine L1_ret 9 ?_
       exact q_rm
      ·replace hm := bif_f b14 hm
       refine q_sk ?_
       refine q_vu [qd 3 (Dir.none) (inb_of g7)] 0 [3, 50] [(3, vi (w64 (x4 + ((a1.getD x5.toNat default).Len))))] [] [] ?_
       refine q_vu [] 0 [4] [(4, vi (w64 (x5 + 1)))] [] [] ?_
       exact q_hl (ref11_Check_L1_S a1 (w64 (x4 + ((a1.getD x5.toNat default).Len))) (w64 (x5 + 1))) (ih (w64 (x4 + ((a1.getD x5.toNat default).Len))) (w64 (x5 + 1)) _ hm)
     ·rcases Bool.eq_false_or_eq_true (decide (((a1.getD x5.toNat default).Len) < 1)) with b12 | b12
      ·replace hm := bif_t b12 hm
       refine q_vu [qd 2 (Dir.none) (inb_of g7), qf 6 b12] 0 [34] [(50, vb true)] [] [] ?_
       exact q_J (true) hm
      ·replace hm := bif_f b12 hm
       refine q_vu [qd 2 (Dir.none) (inb_of g7), qf 6 b12, qd 9 (Dir.none) (inb_of g7)] 0 [34] [(42, vc (tl e_Slice default a1)), (43, vi x5), (44, vc (.lptr (e_Slice (a1.getD x5.toNat default)))), (45, vc (.lptr (e_Slice (a1.getD x5.toNat default)))), (46, vi ((a1.getD x5.toNat default).Len)), (47, vi x4), (48, vi (w64 (20000 - x4))), (49, vb (decide (((a1.getD x5.toNat default).Len) > (w64 (20000 - x4))))), (50, vb (decide (((a1.getD x5.toNat default).Len) > (w64 (20000 - x4)))))] [] [] ?_
       exact q_J (decide (((a1.getD x5.toNat default).Len) > (w64 (20000 - x4)))) hm
  ·replace hm := bif_f b6 hm
   refine q_ex 0 ?_
   obtain rfl := Option.some.inj hm
   exact L1_mk () (by kernel_rfl) (by kernel_rfl)

set_option maxRecDepth 100000 in
theorem ref11_Check_ok (a1 : List Slice) (r : Int) (hm : ref11_Check a1 = some r) : CtX Tryd.prog globs 54 0 0 [.one (tl e_Slice default a1)] [] (ref11_Check_x r) (ref11_Check_o r) := by
 unfold ref11_Check at hm
 refine q_E Tryd.f54 58 fun E => ?_
 refine q_sq ?_
 refine q_vn [] 0 ⟨[(0, vc (tl e_Slice default a1))], []⟩ ?_
 refine q_sq ?_
 refine q_sq ?_
 refine q_vu [] 0 [] [(8, vb (((a1.length : Nat) : Int) == 0))] [] [] ?_
 refine q_cn (((a1.length : Nat) : Int) == 0) (fun b2 => ?_) (fun b2 => ?_)
 ·replace hm := bif_t b2 hm
  refine q_sq ?_
  refine q_vn [] 0 ⟨[(2, vi 3)], []⟩ ?_
  obtain rfl := Option.some.inj hm
  refine q_rt ?_
  exact q_rm
 ·replace hm := bif_f b2 hm
  refine q_sk ?_
  refine q_sq ?_
  refine q_sq ?_
  refine q_vu [] 0 [8] [(11, vb (decide (((a1.length : Nat) : Int) > 24)))] [] [] ?_
  refine q_cn (decide (((a1.length : Nat) : Int) > 24)) (fun b3 => ?_) (fun b3 => ?_)
  ·replace hm := bif_t b3 hm
   refine q_sq ?_
   refine q_vn [] 0 ⟨[(2, vi 4)], []⟩ ?_
   obtain rfl := Option.some.inj hm
   refine q_rt ?_
   exact q_rm
  ·replace hm := bif_f b3 hm
   refine q_sk ?_
   refine q_sq ?_
   refine q_vu [] 0 [11] [(3, vi 0)] [] [] ?_
   refine q_sq ?_
   refine q_sq ?_
   refine q_vu [] 0 [] [(4, vi 0)] [] [] ?_
   obtain ⟨u17, h16, hm⟩ := bind_s hm
   refine R_loop1 (nd Tryd.f54 500) 0 (by kernel_rfl) FUEL (fun o => ref11_Check_L1_T) (fun v st => RetQ Tryd.prog Tryd.f54 (ref11_Check_x v) (ref11_Check_o v) .ret st) u17 (q_hl (ref11_Check_L1_S a1 0 0) (ref11_Check_L1_ok E a1 FUEL 0 0 u17 h16)) ?_ ?_
   ·rintro v18 rfl st hr
    obtain rfl := Option.some.inj hm
    exact hr
   ·rintro o15 rfl
    replace hm : _ = some r := hm
    refine q_sq ?_
    refine q_vn [] 0 ⟨[(2, vi 0)], []⟩ ?_
    obtain rfl := Option.some.inj hm
    refine q_rt ?_
    exact q_rm

end Saw
end Go.SL

namespace Go.SL
namespace Saw
open Go.Proofs
set_option maxHeartbeats 4000000

def ref11_Length_x (r : Int) : V := vi r

def ref11_Length_o (r : Int) : List (Nat × (Nat × O)) := []

theorem ref11_Length_f (r : Int) : Frozen (ref11_Length_o r) := by
 intro i k o h
 unfold ref11_Length_o at h
 cases h

def ref11_Length_L1_S (a1 : List Slice) (x5 : Int) (x6 : Int) : St :=
 ⟨[(0, vc (tl e_Slice default a1)), (3, vi x5), (4, vi x6)], []⟩

def ref11_Length_L1_T (x9 : Int) : St :=
 ⟨[(3, vi x9)], []⟩

set_option maxRecDepth 100000 in
theorem ref11_Length_L1_ok (E : Env 0) (a1 : List Slice) : ∀ (n : Nat) (x5 : Int) (x6 : Int) (res : Int), ref11_Length_L1 a1 n x5 x6 = some res → HL (kx E 22 0) (nd Tryd.f27 244) (loopQ0 0 (fun o => ref11_Length_L1_T o) res) n (ref11_Length_L1_S a1 x5 x6) := by
 intro n
 induction n with
 | zero =>
  intro x5 x6 res hm
  cases hm
 | succ n ih =>
  intro x5 x6 res hm
  refine HL_succ ?_
  refine q_sq ?_
  refine q_sq ?_
  refine q_vu [] 0 [] [(11, vb (decide (x6 < ((a1.length : Nat) : Int))))] [] [] ?_
  refine q_cn (decide (x6 < ((a1.length : Nat) : Int))) (fun b7 => ?_) (fun b7 => ?_)
  ·replace hm := bif_t b7 hm
   refine q_sk ?_
   refine q_sq ?_
   refine q_bk 1 ?_
   obtain ⟨g8, hm⟩ := bif_n hm
   refine q_vu [qd 3 (Dir.none) (inb_of g8)] 0 [3, 11] [(3, vi (w64 (x5 + ((a1.getD x6.toNat default).Len))))] [] [] ?_
   refine q_vu [] 0 [4] [(4, vi (w64 (x6 + 1)))] [] [] ?_
   exact q_hl (ref11_Length_L1_S a1 (w64 (x5 + ((a1.getD x6.toNat default).Len))) (w64 (x6 + 1))) (ih (w64 (x5 + ((a1.getD x6.toNat default).Len))) (w64 (x6 + 1)) _ hm)
  ·replace hm := bif_f b7 hm
   refine q_ex 0 ?_
   obtain rfl := Option.some.inj hm
   exact L0_mk (by kernel_rfl) (by kernel_rfl)

set_option maxRecDepth 100000 in
theorem ref11_Length_ok (a1 : List Slice) (r : Int) (hm : ref11_Length a1 = some r) : CtX Tryd.prog globs 27 0 0 [.one (tl e_Slice default a1)] [] (ref11_Length_x r) (ref11_Length_o r) := by
 unfold ref11_Length at hm
 refine q_E Tryd.f27 22 fun E => ?_
 refine q_sq ?_
 refine q_vn [] 0 ⟨[(0, vc (tl e_Slice default a1))], []⟩ ?_
 refine q_sq ?_
 refine q_sq ?_
 obtain ⟨v2, h3, hm⟩ := bind_s hm
 refine q_vu [qc 1 [5] 0 (ref11_Check_ok a1 v2 h3)] 0 [] [(7, vb (v2 != 0))] [] [] ?_
 refine q_cn (v2 != 0) (fun b4 => ?_) (fun b4 => ?_)
 ·replace hm := bif_t b4 hm
  refine q_sq ?_
  refine q_vn [] 0 ⟨[(2, vi 0)], []⟩ ?_
  obtain rfl := Option.some.inj hm
  refine q_rt ?_
  exact q_rm
 ·replace hm := bif_f b4 hm
  refine q_sk ?_
  refine q_sq ?_
  refine q_vu [] 0 [7] [(3, vi 0)] [] [] ?_
  refine q_sq ?_
  refine q_sq ?_
  refine q_vu [] 0 [] [(4, vi 0)] [] [] ?_
  obtain ⟨o10, h11, hm⟩ := bind_s hm
  refine R_loop0 (nd Tryd.f27 244) 0 (by kernel_rfl) FUEL (fun o => ref11_Length_L1_T o) o10 (q_hl (ref11_Length_L1_S a1 0 0) (ref11_Length_L1_ok E a1 FUEL 0 0 o10 h11)) ?_
  refine q_sq ?_
  refine q_vn [] 0 ⟨[(2, vi o10)], []⟩ ?_
  obtain rfl := Option.some.inj hm
  refine q_rt ?_
  exact q_rm

end Saw
end Go.SL
