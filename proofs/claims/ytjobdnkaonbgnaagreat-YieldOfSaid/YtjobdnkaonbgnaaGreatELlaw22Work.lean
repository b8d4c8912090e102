import Derived.Test.YtjobdnkaonbgnaaGreatEBase
set_option linter.unusedVariables false
set_option linter.unusedSimpArgs false
namespace Go.SL
namespace Saw
open Go.Proofs
set_option maxHeartbeats 4000000
set_option maxRecDepth 100000
def qMD (r : Int) : V := vi r
def qMz (r : Int) : List (Nat × (Nat × O)) := []
def qCg (a1 : Law22_Given) (x2 : Int) (x3 : Int) (x5 : Bool) : St :=
 ⟨[(1, vp 0 0), (3, vi x2), (4, vi 1), (5, vi x3), (16, vb x5)], [(0, bx 37 (qX a1))]⟩
def EV (a1 : Law22_Given) (x2 : Int) (x3 : Int) : St :=
 ⟨[(1, vp 0 0), (3, vi x2), (4, vi 1), (5, vi x3)], [(0, bx 37 (qX a1))]⟩
def qCu (a1 : Law22_Given) (x8 : Int) : St :=
 ⟨[(1, vp 0 0), (3, vi x8), (4, vi 1)], [(0, bx 37 (qX a1))]⟩
def EB (a1 : Law22_Given) (o9 : Int) (x11 : Int) (x12 : Int) : St :=
 ⟨[(1, vp 0 0), (3, vi o9), (4, vi x11), (6, vi x12)], [(0, bx 37 (qX a1))]⟩
def qCd (a1 : Law22_Given) (o9 : Int) (x15 : Int) : St :=
 ⟨[(1, vp 0 0), (3, vi o9), (4, vi x15)], [(0, bx 37 (qX a1))]⟩
def qCc (a1 : Law22_Given) (o16 : Int) (x20 : Int) : St :=
 ⟨[(1, vp 0 0), (4, vi o16), (7, vi x20)], [(0, bx 37 (qX a1))]⟩
theorem qHm (E : Env 0) (a1 : Law22_Given) : ∀ (n : Nat) (x2 : Int) (x3 : Int) (res : Int), ZN a1 n x2 x3 = some res → HL (kx E 73 0) (nd Tryz.f13 116) (wC 0 (fun o => qCu a1 o) res) n (EV a1 x2 x3) := by
 intro n
 induction n with
 | zero =>
  intro x2 x3 res hm
  cases hm
 | succ n ih =>
  intro x2 x3 res hm
  refine qQ ?_
  refine q_sq ?_
  refine q_jn (ι := Bool) (fun p => qCg a1 x2 x3 p) (fun p => UM a1 x2 x3 (ZN a1 n) p = some res) ?_ ?_
  ·rintro x5 hm
   show H _ (qCg a1 x2 x3 x5) _ _
   refine q_cn x5 (fun b6 => ?_) (fun b6 => ?_)
   ·replace hm := qB b6 hm
    refine q_sk ?_
    refine q_sq ?_
    refine q_bk 1 ?_
    obtain ⟨g7, hm⟩ := qM hm
    refine q_vu [qd 4 (Dir.none) (inb_of g7)] 1 [3, 16] [(3, vi (imin 20000 (w64 (x2 + (imax 0 (imin 20000 ((a1.Solid.getD x3.toNat default).Len)))))))] [] [] ?_
    refine q_vu [] 1 [5] [(5, vi (w64 (x3 + 1)))] [] [] ?_
    exact q_hl (EV a1 (imin 20000 (w64 (x2 + (imax 0 (imin 20000 ((a1.Solid.getD x3.toNat default).Len)))))) (w64 (x3 + 1))) (ih (imin 20000 (w64 (x2 + (imax 0 (imin 20000 ((a1.Solid.getD x3.toNat default).Len)))))) (w64 (x3 + 1)) _ hm)
   ·replace hm := qC b6 hm
    refine q_ex 0 ?_
    obtain rfl := oi hm
    exact jP (by kernel_rfl) (by kernel_rfl)
  ·rcases Bool.eq_false_or_eq_true (decide (x3 < ((a1.Solid.length : Nat) : Int))) with b4 | b4
   ·replace hm := qB b4 hm
    refine q_vu [qf 5 b4] 1 [] [(16, vb (decide (x3 < 30)))] [] [] ?_
    exact q_J (decide (x3 < 30)) hm
   ·replace hm := qC b4 hm
    refine q_vu [qf 5 b4] 1 [] [(16, vb false)] [] [] ?_
    exact q_J (false) hm
theorem qHk (E : Env 0) (a1 : Law22_Given) (o9 : Int) : ∀ (n : Nat) (x11 : Int) (x12 : Int) (res : Int), KD a1 n x11 x12 = some res → HL (kx E 73 0) (nd Tryz.f13 244) (wC 2 (fun o => qCd a1 o9 o) res) n (EB a1 o9 x11 x12) := by
 intro n
 induction n with
 | zero =>
  intro x11 x12 res hm
  cases hm
 | succ n ih =>
  intro x11 x12 res hm
  refine qQ ?_
  refine q_sq ?_
  refine s_vu [] 1 [] [(34, vb (decide (x12 < ((a1.Products.length : Nat) : Int))))] [] [] ?_
  refine q_cn (decide (x12 < ((a1.Products.length : Nat) : Int))) (fun b13 => ?_) (fun b13 => ?_)
  ·replace hm := qB b13 hm
   refine q_sk ?_
   refine q_sq ?_
   refine q_bk 3 ?_
   obtain ⟨g14, hm⟩ := qM hm
   refine q_vu [qd 4 (Dir.none) (inb_of g14)] 1 [4, 34] [(4, vi (imax x11 (imin 10 ((((a1.Products.getD x12.toNat default).Lengths).length : Nat) : Int))))] [] [] ?_
   refine q_vu [] 1 [6] [(6, vi (w64 (x12 + 1)))] [] [] ?_
   exact q_hl (EB a1 o9 (imax x11 (imin 10 ((((a1.Products.getD x12.toNat default).Lengths).length : Nat) : Int))) (w64 (x12 + 1))) (ih (imax x11 (imin 10 ((((a1.Products.getD x12.toNat default).Lengths).length : Nat) : Int))) (w64 (x12 + 1)) _ hm)
  ·replace hm := qC b13 hm
   refine q_ex 2 ?_
   obtain rfl := oi hm
   exact jP (by kernel_rfl) (by kernel_rfl)
theorem qLe (a1 : Law22_Given) (r : Int) (hm : ED a1 = some r) : CtX Tryz.prog globs 13 0 0 [.agg (qX a1)] [] (qMD r) (qMz r) := by
 unfold ED at hm
 refine q_E Tryz.f13 73 fun E => ?_
 refine s_vn [] 0 ⟨[(1, vp 0 0)], [(0, bx 37 (qX a1))]⟩ ?_
 refine s_vu [] 1 [] [(3, vi 0), (4, vi 1)] [] [] ?_
 refine q_sq ?_
 refine s_vu [] 1 [] [(5, vi 0)] [] [] ?_
 obtain ⟨o9, h10, hm⟩ := qD hm
 refine zX (nd Tryz.f13 116) 0 (by kernel_rfl) FUEL (fun o => qCu a1 o) o9 (q_hl (EV a1 0 0) (qHm E a1 FUEL 0 0 o9 h10)) ?_
 refine q_sq ?_
 refine s_vu [] 1 [] [(6, vi 0)] [] [] ?_
 obtain ⟨o16, h17, hm⟩ := qD hm
 refine zX (nd Tryz.f13 244) 2 (by kernel_rfl) FUEL (fun o => qCd a1 o9 o) o16 (q_hl (EB a1 o9 1 0) (qHk E a1 o9 FUEL 1 0 o16 h17)) ?_
 refine s_vu [] 1 [] [(7, vi 1)] [] [] ?_
 refine q_jn (ι := Int) (fun p => qCc a1 o16 p) (fun p => MJ a1 o16 p = some r) ?_ ?_
 ·rintro x20 hm
  show H _ (qCc a1 o16 x20) _ _
  refine s_vn [] 1 ⟨[(2, vi (w64 ((w64 ((w64 (x20 * o16)) * (w64 (1 + (imin 30 ((a1.Solid.length : Nat) : Int)))))) * (w64 (1 + (imin 140 ((a1.Pattern.Nodes.length : Nat) : Int)))))))], []⟩ ?_
  obtain rfl := oi hm
  refine q_rt ?_
  exact q_rm
 ·refine s_vu [] 1 [] [(50, vb (decide (a1.Saw.Step > 0)))] [] [] ?_
  refine q_cn (decide (a1.Saw.Step > 0)) (fun b18 => ?_) (fun b18 => ?_)
  ·replace hm := qB b18 hm
   obtain ⟨g19, hm⟩ := qM hm
   refine q_vu [qd 4 (Dir.none) (qIE g19)] 1 [3, 7, 50] [(7, vi (w64 (1 + (w64 (Int.tdiv o9 a1.Saw.Step)))))] [] [] ?_
   exact q_J (w64 (1 + (w64 (Int.tdiv o9 a1.Saw.Step)))) hm
  ·replace hm := qC b18 hm
   refine q_sk ?_
   exact q_J (1) hm
end Saw
end Go.SL
