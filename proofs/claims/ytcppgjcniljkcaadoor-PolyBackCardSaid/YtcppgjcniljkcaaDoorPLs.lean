import Derived.Test.YtcppgjcniljkcaaDoorPBase
set_option linter.unusedVariables false
set_option linter.unusedSimpArgs false
namespace Go.SL
namespace Saw
open Go.Proofs
set_option maxHeartbeats 4000000

def law09_pt_x (r : Point) : V := va [ci r.X, ci r.Y]

def law09_pt_o (r : Point) : List (Nat × (Nat × O)) := []

theorem law09_pt_f (r : Point) : Frozen (law09_pt_o r) := by
  intro i k o h
  unfold law09_pt_o at h
  cases h

set_option maxRecDepth 100000 in
theorem law09_pt_ok (a1 : Int) (a2 : Int) (r : Point) (hm : law09_pt a1 a2 = some r) : CtX Tryd.prog globs 36 0 0 [.one (ci a1), .one (ci a2)] [] (law09_pt_x r) (law09_pt_o r) := by
  unfold law09_pt at hm
  refine CtX_of_E (fn := Tryd.f36) (c := nd Tryd.f36 1) (nt := 8) (by kernel_rfl) (by kernel_rfl) (by kernel_rfl) (by kernel_rfl) fun E => ?_
  refine R_sq Tryd.f36 2 3 (by kernel_rfl) ?_
  refine R_rn Tryd.f36 2 0 [] [] 0 ⟨[(0, vi a1), (1, vi a2), (4, vp 0 0)], [(0, bx 38 [ci 0, ci 0])]⟩ o0 (by kernel_rfl) (by kernel_rfl) ?_
  refine R_sq Tryd.f36 6 7 (by kernel_rfl) ?_
  refine R_rn Tryd.f36 6 1 [] [] 1 ⟨[(4, vp 0 0)], [(0, bx 38 [ci a1, ci a2])]⟩ o0 (by kernel_rfl) (by kernel_rfl) ?_
  obtain rfl := Option.some.inj hm
  refine R_ret (by kernel_rfl) ?_
  exact ret_mk (by kernel_rfl) (by kernel_rfl)

end Saw
end Go.SL

namespace Go.SL
namespace Saw
open Go.Proofs
set_option maxHeartbeats 4000000

def law09_few_x (r : Bool) : V := vb r

def law09_few_o (r : Bool) : List (Nat × (Nat × O)) := []

theorem law09_few_f (r : Bool) : Frozen (law09_few_o r) := by
  intro i k o h
  unfold law09_few_o at h
  cases h

set_option maxRecDepth 100000 in
theorem law09_few_ok (a1 : List Point) (r : Bool) (hm : law09_few a1 = some r) : CtX Tryd.prog globs 12 0 0 [.one (tl e_Point default a1)] [] (law09_few_x r) (law09_few_o r) := by
  unfold law09_few at hm
  refine CtX_of_E (fn := Tryd.f12) (c := nd Tryd.f12 1) (nt := 6) (by kernel_rfl) (by kernel_rfl) (by kernel_rfl) (by kernel_rfl) fun E => ?_
  refine R_sq Tryd.f12 2 3 (by kernel_rfl) ?_
  refine R_rn Tryd.f12 2 0 [] [] 0 ⟨[(0, vc (tl e_Point default a1))], []⟩ o0 (by kernel_rfl) (by kernel_rfl) ?_
  refine R_sq Tryd.f12 6 7 (by kernel_rfl) ?_
  refine R_rn Tryd.f12 6 1 [] [] 0 ⟨[(2, vb (decide (((a1.length : Nat) : Int) ≤ 100)))], []⟩ o0 (by kernel_rfl) (by kernel_rfl) ?_
  obtain rfl := Option.some.inj hm
  refine R_ret (by kernel_rfl) ?_
  exact ret_mk (by kernel_rfl) (by kernel_rfl)

end Saw
end Go.SL
