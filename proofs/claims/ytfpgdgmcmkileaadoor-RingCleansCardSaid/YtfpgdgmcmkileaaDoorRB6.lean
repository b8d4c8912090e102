import Derived.Test.YtfpgdgmcmkileaaDoorRBase
import Derived.Test.YtfpgdgmcmkileaaDoorRB1
import Derived.Test.YtfpgdgmcmkileaaDoorRB3
set_option linter.unusedVariables false
set_option linter.unusedSimpArgs false
namespace Go.SL
namespace Saw
open Go.Proofs
set_option maxHeartbeats 4000000

def ref09_Quarters_x (r : Int) : V := .v (.one (.val (.int .i64 r)))

def ref09_Quarters_o (r : Int) : List (Nat × (Nat × O)) := []

theorem ref09_Quarters_f (r : Int) : Frozen (ref09_Quarters_o r) := by
  intro i k o h
  unfold ref09_Quarters_o at h
  cases h

set_option maxRecDepth 100000 in
theorem ref09_Quarters_ok (a1 : Int) (r : Int) (hm : ref09_Quarters a1 = some r) : Ct Tryd.prog globs 37 [.one (.val (.int .i64 a1))] (ref09_Quarters_x r) (ref09_Quarters_o r) := by
  unfold ref09_Quarters at hm
  refine Ct_of_H (fn := Tryd.f37) (c := nd Tryd.f37 []) mixed (by kernel_rfl) (by kernel_rfl) (by kernel_rfl) fun w A hg => ?_
  show H ({ P := Tryd.prog, w0 := w, nt := 7, A := A, globs := globs, mixed := mixed, glob := hg } : Ctx) _ _ _
  refine R_seq (nd Tryd.f37 [0]) (nd Tryd.f37 [1]) (by kernel_rfl) ?_
  refine R_region 0 (rg Tryd.f37 [0]) (by kernel_rfl) ?_
  have k2 : opsOk 7 (rg Tryd.f37 [0]) = true := by kernel_rfl
  refine P_op k2 (.v (.one (.val (.int .i64 0)))) (by kernel_rfl) ?_
  refine HOps_end (by kernel_rfl) ?_
  refine R_seq (nd Tryd.f37 [1, 0]) (nd Tryd.f37 [1, 1]) (by kernel_rfl) ?_
  refine R_region 1 (rg Tryd.f37 [1, 0]) (by kernel_rfl) ?_
  have k3 : opsOk 7 (rg Tryd.f37 [1, 0]) = true := by kernel_rfl
  refine P_op k3 (.v (.one (.val (.int .i64 a1)))) (by kernel_rfl) ?_
  refine P_opc k3 (.v (.one (.val (.int .i64 (Int.tmod a1 4))))) (4 ≠ (0 : Int)) (by kernel_rfl) (by decide) ?_
  refine P_op k3 (.v (.one (.val (.int .i64 (w64 ((Int.tmod a1 4) + 4)))))) (by kernel_rfl) ?_
  refine P_opc k3 (.v (.one (.val (.int .i64 (Int.tmod (w64 ((Int.tmod a1 4) + 4)) 4))))) (4 ≠ (0 : Int)) (by kernel_rfl) (by decide) ?_
  refine P_op k3 (.v (.one (.val (.int .i64 (Int.tmod (w64 ((Int.tmod a1 4) + 4)) 4))))) (by kernel_rfl) ?_
  refine HOps_end (by kernel_rfl) ?_
  obtain rfl := Option.some.inj hm
  refine R_ret (by kernel_rfl) ?_
  exact ret_mk (by kernel_rfl) (by kernel_rfl)

end Saw
end Go.SL

namespace Go.SL
namespace Saw
open Go.Proofs
set_option maxHeartbeats 4000000

def ref09_Turned_x (r : Point) : V := .v (.agg [.val (.int .i64 r.X), .val (.int .i64 r.Y)])

def ref09_Turned_o (r : Point) : List (Nat × (Nat × O)) := []

theorem ref09_Turned_f (r : Point) : Frozen (ref09_Turned_o r) := by
  intro i k o h
  unfold ref09_Turned_o at h
  cases h

def ref09_Turned_L1_S (a2 : Int) (x5 : Int) (x6 : Point) : St :=
  { slots := [(1, .v (.one (.val (.int .i64 a2)))), (2, .v (.one (.bptr 1 0 0))), (4, .v (.one (.bptr 2 0 0))), (5, .v (.one (.val (.int .i64 x5))))], objs := [(1, (0, .box 38 [.val (.int .i64 x6.X), .val (.int .i64 x6.Y)])), (2, (0, .box 38 [.val (.int .i64 0), .val (.int .i64 0)]))] }

def ref09_Turned_L1_T (x11 : Point) : St :=
  { slots := [(2, .v (.one (.bptr 1 0 0))), (4, .v (.one (.bptr 2 0 0)))], objs := [(1, (0, .box 38 [.val (.int .i64 x11.X), .val (.int .i64 x11.Y)])), (2, (0, .box 38 [.val (.int .i64 0), .val (.int .i64 0)]))] }

set_option maxRecDepth 100000 in
theorem ref09_Turned_L1_ok (w : World) (A : Nat → Prop) (hg : Globs globs w A) (a2 : Int) : ∀ (n : Nat) (x5 : Int) (x6 : Point) (res : Point), ref09_Turned_L1 a2 n x5 x6 = some res → HL ({ P := Tryd.prog, w0 := w, nt := 18, A := A, globs := globs, mixed := mixed, glob := hg } : Ctx) (nd Tryd.f36 [1, 0, 1, 0, 0]) (loopQ0 0 (fun o => ref09_Turned_L1_T o) res) n (ref09_Turned_L1_S a2 x5 x6) := by
  intro n
  induction n with
  | zero =>
    intro x5 x6 res hm
    cases hm
  | succ n ih =>
    intro x5 x6 res hm
    refine HL_succ ?_
    refine R_seq (nd Tryd.f36 [1, 0, 1, 0, 0, 0]) (nd Tryd.f36 [1, 0, 1, 0, 0, 1]) (by kernel_rfl) ?_
    refine R_seq (nd Tryd.f36 [1, 0, 1, 0, 0, 0, 0]) (nd Tryd.f36 [1, 0, 1, 0, 0, 0, 1]) (by kernel_rfl) ?_
    refine R_region 2 (rg Tryd.f36 [1, 0, 1, 0, 0, 0, 0]) (by kernel_rfl) ?_
    have k7 : opsOk 18 (rg Tryd.f36 [1, 0, 1, 0, 0, 0, 0]) = true := by kernel_rfl
    refine P_op k7 (.v (.one (.val (.int .i64 x5)))) (by kernel_rfl) ?_
    refine P_op k7 (.v (.one (.val (.int .i64 a2)))) (by kernel_rfl) ?_
    refine P_op k7 (.v (.one (.val (.bool (decide (x5 < a2)))))) (by kernel_rfl) ?_
    refine HOps_end (by kernel_rfl) ?_
    refine R_cond (.tmp 8) (nd Tryd.f36 [1, 0, 1, 0, 0, 0, 1, 0]) (nd Tryd.f36 [1, 0, 1, 0, 0, 0, 1, 1]) (by kernel_rfl) (decide (x5 < a2)) (by kernel_rfl) (fun b8 => ?_) (fun b8 => ?_)
    · replace hm := bif_t b8 hm
      refine R_skip (by kernel_rfl) ?_
      refine R_seq (nd Tryd.f36 [1, 0, 1, 0, 0, 1, 0]) (nd Tryd.f36 [1, 0, 1, 0, 0, 1, 1]) (by kernel_rfl) ?_
      refine R_block 1 (nd Tryd.f36 [1, 0, 1, 0, 0, 1, 0, 0]) (by kernel_rfl) ?_
      refine R_region 4 (rg Tryd.f36 [1, 0, 1, 0, 0, 1, 0, 0]) (by kernel_rfl) ?_
      have k9 : opsOk 18 (rg Tryd.f36 [1, 0, 1, 0, 0, 1, 0, 0]) = true := by kernel_rfl
      refine P_op k9 (.v (.one (.bptr 1 0 1))) (by kernel_rfl) ?_
      refine P_op k9 (.v (.one (.val (.int .i64 x6.Y)))) (by kernel_rfl) ?_
      refine P_op k9 (.v (.one (.val (.int .i64 (w64 (0 - x6.Y)))))) (by kernel_rfl) ?_
      refine P_op k9 (.v (.one (.bptr 1 0 0))) (by kernel_rfl) ?_
      refine P_op k9 (.v (.one (.val (.int .i64 x6.X)))) (by kernel_rfl) ?_
      refine P_op k9 (.v (.agg [.val (.int .i64 (w64 (0 - x6.Y))), .val (.int .i64 x6.X)])) (by kernel_rfl) ?_
      refine P_write k9 ([(1, (0, .box 38 [.val (.int .i64 (w64 (0 - x6.Y))), .val (.int .i64 x6.X)]))]) (.undef) (by kernel_rfl) (Step_store_box 38 (.tmp 2) (.tmp 16) 1 0 0 38 [.val (.int .i64 x6.X), .val (.int .i64 x6.Y)] (.agg [.val (.int .i64 (w64 (0 - x6.Y))), .val (.int .i64 x6.X)]) [.val (.int .i64 (w64 (0 - x6.Y))), .val (.int .i64 x6.X)] (by kernel_rfl) (by kernel_rfl) (by kernel_rfl) (by kernel_rfl) (by kernel_rfl) (by kernel_rfl) (by kernel_rfl) (by kernel_rfl)) ?_
      refine HOps_end (by kernel_rfl) ?_
      refine R_region 3 (rg Tryd.f36 [1, 0, 1, 0, 0, 1, 1]) (by kernel_rfl) ?_
      have k10 : opsOk 18 (rg Tryd.f36 [1, 0, 1, 0, 0, 1, 1]) = true := by kernel_rfl
      refine P_op k10 (.v (.one (.val (.int .i64 x5)))) (by kernel_rfl) ?_
      refine P_op k10 (.v (.one (.val (.int .i64 (w64 (x5 + 1)))))) (by kernel_rfl) ?_
      refine P_op k10 (.v (.one (.val (.int .i64 (w64 (x5 + 1)))))) (by kernel_rfl) ?_
      refine HOps_end (by kernel_rfl) ?_
      exact HL_enter (ref09_Turned_L1_S a2 (w64 (x5 + 1)) (Point.mk (w64 (0 - x6.Y)) x6.X)) (by kernel_rfl) (by kernel_rfl) (ih (w64 (x5 + 1)) (Point.mk (w64 (0 - x6.Y)) x6.X) _ hm)
    · replace hm := bif_f b8 hm
      refine R_exit 0 (by kernel_rfl) ?_
      obtain rfl := Option.some.inj hm
      exact L0_mk (by kernel_rfl) (by kernel_rfl)

set_option maxRecDepth 100000 in
theorem ref09_Turned_ok (a1 : Point) (a2 : Int) (r : Point) (hm : ref09_Turned a1 a2 = some r) : Ct Tryd.prog globs 36 [.agg [.val (.int .i64 a1.X), .val (.int .i64 a1.Y)], .one (.val (.int .i64 a2))] (ref09_Turned_x r) (ref09_Turned_o r) := by
  unfold ref09_Turned at hm
  refine Ct_of_H (fn := Tryd.f36) (c := nd Tryd.f36 []) mixed (by kernel_rfl) (by kernel_rfl) (by kernel_rfl) fun w A hg => ?_
  show H ({ P := Tryd.prog, w0 := w, nt := 18, A := A, globs := globs, mixed := mixed, glob := hg } : Ctx) _ _ _
  refine R_seq (nd Tryd.f36 [0]) (nd Tryd.f36 [1]) (by kernel_rfl) ?_
  refine R_region 0 (rg Tryd.f36 [0]) (by kernel_rfl) ?_
  have k3 : opsOk 18 (rg Tryd.f36 [0]) = true := by kernel_rfl
  refine P_step k3 ([(1, 0)]) ([(1, (0, .box 38 [.val (.int .i64 a1.X), .val (.int .i64 a1.Y)]))]) (.v (.one (.bptr 1 0 0))) (by kernel_rfl) (Step_box 38 (.tmp 0) 1 0 (.agg [.val (.int .i64 a1.X), .val (.int .i64 a1.Y)]) (by kernel_rfl) (by kernel_rfl) (by kernel_rfl)) ?_
  refine P_step k3 ([(2, 0)]) ([(2, (0, .box 38 [.val (.int .i64 0), .val (.int .i64 0)]))]) (.v (.one (.bptr 2 0 0))) (by kernel_rfl) (Step_alloc 38 2 0 [.val (.int .i64 0), .val (.int .i64 0)] (by kernel_rfl) (by kernel_rfl) (by kernel_rfl)) ?_
  refine HOps_end (by kernel_rfl) ?_
  refine R_seq (nd Tryd.f36 [1, 0]) (nd Tryd.f36 [1, 1]) (by kernel_rfl) ?_
  refine R_seq (nd Tryd.f36 [1, 0, 0]) (nd Tryd.f36 [1, 0, 1]) (by kernel_rfl) ?_
  refine R_region 1 (rg Tryd.f36 [1, 0, 0]) (by kernel_rfl) ?_
  have k4 : opsOk 18 (rg Tryd.f36 [1, 0, 0]) = true := by kernel_rfl
  refine P_op k4 (.v (.one (.val (.int .i64 0)))) (by kernel_rfl) ?_
  refine HOps_end (by kernel_rfl) ?_
  obtain ⟨o12, h13, hm⟩ := bind_s hm
  refine R_loop0 (nd Tryd.f36 [1, 0, 1, 0, 0]) 0 (by kernel_rfl) FUEL (fun o => ref09_Turned_L1_T o) o12 (HL_enter (ref09_Turned_L1_S a2 0 a1) (by kernel_rfl) (by kernel_rfl) (ref09_Turned_L1_ok w A hg a2 FUEL 0 a1 o12 h13)) ?_
  refine R_seq (nd Tryd.f36 [1, 1, 0]) (nd Tryd.f36 [1, 1, 1]) (by kernel_rfl) ?_
  refine R_region 5 (rg Tryd.f36 [1, 1, 0]) (by kernel_rfl) ?_
  have k14 : opsOk 18 (rg Tryd.f36 [1, 1, 0]) = true := by kernel_rfl
  refine P_op k14 (.v (.agg [.val (.int .i64 o12.X), .val (.int .i64 o12.Y)])) (by kernel_rfl) ?_
  refine P_write k14 ([(2, (0, .box 38 [.val (.int .i64 o12.X), .val (.int .i64 o12.Y)]))]) (.undef) (by kernel_rfl) (Step_store_box 38 (.tmp 4) (.tmp 17) 2 0 0 38 [.val (.int .i64 0), .val (.int .i64 0)] (.agg [.val (.int .i64 o12.X), .val (.int .i64 o12.Y)]) [.val (.int .i64 o12.X), .val (.int .i64 o12.Y)] (by kernel_rfl) (by kernel_rfl) (by kernel_rfl) (by kernel_rfl) (by kernel_rfl) (by kernel_rfl) (by kernel_rfl) (by kernel_rfl)) ?_
  refine HOps_end (by kernel_rfl) ?_
  obtain rfl := Option.some.inj hm
  refine R_ret (by kernel_rfl) ?_
  exact ret_mk (by kernel_rfl) (by kernel_rfl)

end Saw
end Go.SL

namespace Go.SL
namespace Saw
open Go.Proofs
set_option maxHeartbeats 4000000

def ref12_Turn_x (r : Ring) : V := .v (.agg [.val (.int .i64 r.Z), .own 0 0 3 r.Read.length])

def ref12_Turn_o (r : Ring) : List (Nat × (Nat × O)) := [(0, (0, .row 44 3 r.Read.length (rowf e_Reading default r.Read)))]

theorem ref12_Turn_f (r : Ring) : Frozen (ref12_Turn_o r) := by
  intro i k o h
  unfold ref12_Turn_o at h
  rw [look_cons] at h
  split at h
  · cases h; exact fun _ _ => rfl
  · cases h

def ref12_Turn_k2_S (a2 : Int) (v5 : Ring) (x13 : Int) (l24 : List Reading) (l24n : Nat) : St :=
  { slots := [(1, .v (.one (.val (.int .i64 a2)))), (4, .v (.one (.bptr 2 0 0))), (5, .v (.one (.bptr 4 0 0))), (6, .v (.one (.val (.int .i64 x13))))], objs := [(2, (0, .box 24 [.val (.int .i64 0), .emp])), (3, (0, .row 44 3 l24n (rowf e_Reading default l24))), (4, (0, .box 24 [.val (.int .i64 v5.Z), .own 3 0 3 l24n]))] }

def ref12_Turn_L1_S (a2 : Int) (v5 : Ring) (x13 : Int) (l14 : List Reading) (l14n : Nat) : St :=
  { slots := [(1, .v (.one (.val (.int .i64 a2)))), (4, .v (.one (.bptr 2 0 0))), (5, .v (.one (.bptr 4 0 0))), (6, .v (.one (.val (.int .i64 x13))))], objs := [(2, (0, .box 24 [.val (.int .i64 0), .emp])), (3, (0, .row 44 3 l14n (rowf e_Reading default l14))), (4, (0, .box 24 [.val (.int .i64 v5.Z), .own 3 0 3 l14n]))] }

def ref12_Turn_L1_T (v5 : Ring) (l26 : List Reading) : St :=
  { slots := [(4, .v (.one (.bptr 2 0 0))), (5, .v (.one (.bptr 4 0 0)))], objs := [(2, (0, .box 24 [.val (.int .i64 0), .emp])), (3, (0, .row 44 3 l26.length (rowf e_Reading default l26))), (4, (0, .box 24 [.val (.int .i64 v5.Z), .own 3 0 3 l26.length]))] }

set_option maxRecDepth 100000 in
theorem ref12_Turn_L1_ok (w : World) (A : Nat → Prop) (hg : Globs globs w A) (a2 : Int) (v5 : Ring) : ∀ (n : Nat) (x13 : Int) (l14 : List Reading) (l14n : Nat) (res : (List Reading)), l14.length = l14n → ref12_Turn_L1 a2 n x13 l14 = some res → HL ({ P := Tryd.prog, w0 := w, nt := 41, A := A, globs := globs, mixed := mixed, glob := hg } : Ctx) (nd Tryd.f20 [1, 1, 1, 0, 1, 0, 0]) (loopQ0 0 (fun o => ref12_Turn_L1_T v5 o) res) n (ref12_Turn_L1_S a2 v5 x13 l14 l14n) := by
  intro n
  induction n with
  | zero =>
    intro x13 l14 l14n res hl0 hm
    cases hm
  | succ n ih =>
    intro x13 l14 l14n res hl0 hm
    subst hl0
    refine HL_succ ?_
    refine R_seq (nd Tryd.f20 [1, 1, 1, 0, 1, 0, 0, 0]) (nd Tryd.f20 [1, 1, 1, 0, 1, 0, 0, 1]) (by kernel_rfl) ?_
    refine R_seq (nd Tryd.f20 [1, 1, 1, 0, 1, 0, 0, 0, 0]) (nd Tryd.f20 [1, 1, 1, 0, 1, 0, 0, 0, 1]) (by kernel_rfl) ?_
    refine R_region 5 (rg Tryd.f20 [1, 1, 1, 0, 1, 0, 0, 0, 0]) (by kernel_rfl) ?_
    have k15 : opsOk 41 (rg Tryd.f20 [1, 1, 1, 0, 1, 0, 0, 0, 0]) = true := by kernel_rfl
    refine P_op k15 (.v (.one (.val (.int .i64 x13)))) (by kernel_rfl) ?_
    refine P_op k15 (.v (.one (.bptr 4 0 1))) (by kernel_rfl) ?_
    refine P_op k15 (.v (.one (.own 3 0 3 l14.length))) (by kernel_rfl) ?_
    refine P_op k15 (.v (.one (.val (.int .i64 ((l14.length : Nat) : Int))))) (by kernel_rfl) ?_
    refine P_op k15 (.v (.one (.val (.bool (decide (x13 < ((l14.length : Nat) : Int))))))) (by kernel_rfl) ?_
    refine HOps_end (by kernel_rfl) ?_
    refine R_cond (.tmp 17) (nd Tryd.f20 [1, 1, 1, 0, 1, 0, 0, 0, 1, 0]) (nd Tryd.f20 [1, 1, 1, 0, 1, 0, 0, 0, 1, 1]) (by kernel_rfl) (decide (x13 < ((l14.length : Nat) : Int))) (by kernel_rfl) (fun b16 => ?_) (fun b16 => ?_)
    · replace hm := bif_t b16 hm
      refine R_skip (by kernel_rfl) ?_
      refine R_join (ι := (List Reading) × Nat) (nd Tryd.f20 [1, 1, 1, 0, 1, 0, 0, 1, 0]) (nd Tryd.f20 [1, 1, 1, 0, 1, 0, 0, 1, 1]) (by kernel_rfl) (fun p => ref12_Turn_k2_S a2 v5 x13 p.1 p.2) (fun p => p.1.length = p.2 ∧ ref12_Turn_k2 x13 (ref12_Turn_L1 a2 n) p.1 = some res) ?_ ?_
      · rintro ⟨l24, l24n⟩ ⟨el24, hm⟩
        replace el24 : l24.length = l24n := el24
        subst el24
        show H _ (ref12_Turn_k2_S a2 v5 x13 l24 l24.length) (nd Tryd.f20 [1, 1, 1, 0, 1, 0, 0, 1, 1]) _
        refine R_region 6 (rg Tryd.f20 [1, 1, 1, 0, 1, 0, 0, 1, 1]) (by kernel_rfl) ?_
        have k25 : opsOk 41 (rg Tryd.f20 [1, 1, 1, 0, 1, 0, 0, 1, 1]) = true := by kernel_rfl
        refine P_op k25 (.v (.one (.val (.int .i64 x13)))) (by kernel_rfl) ?_
        refine P_op k25 (.v (.one (.val (.int .i64 (w64 (x13 + 1)))))) (by kernel_rfl) ?_
        refine P_op k25 (.v (.one (.val (.int .i64 (w64 (x13 + 1)))))) (by kernel_rfl) ?_
        refine HOps_end (by kernel_rfl) ?_
        exact HL_enter (ref12_Turn_L1_S a2 v5 (w64 (x13 + 1)) l24 l24.length) (by kernel_rfl) (by kernel_rfl) (ih (w64 (x13 + 1)) l24 l24.length _ rfl hm)
      · refine R_block 1 (nd Tryd.f20 [1, 1, 1, 0, 1, 0, 0, 1, 0, 0]) (by kernel_rfl) ?_
        refine R_seq (nd Tryd.f20 [1, 1, 1, 0, 1, 0, 0, 1, 0, 0, 0]) (nd Tryd.f20 [1, 1, 1, 0, 1, 0, 0, 1, 0, 0, 1]) (by kernel_rfl) ?_
        refine R_region 7 (rg Tryd.f20 [1, 1, 1, 0, 1, 0, 0, 1, 0, 0, 0]) (by kernel_rfl) ?_
        have k17 : opsOk 41 (rg Tryd.f20 [1, 1, 1, 0, 1, 0, 0, 1, 0, 0, 0]) = true := by kernel_rfl
        refine P_op k17 (.v (.one (.bptr 4 0 1))) (by kernel_rfl) ?_
        refine P_op k17 (.v (.one (.own 3 0 3 l14.length))) (by kernel_rfl) ?_
        refine P_op k17 (.v (.one (.val (.int .i64 x13)))) (by kernel_rfl) ?_
        obtain ⟨g18, hm⟩ := bif_n hm
        refine P_opc k17 (.v (.one (.rptr 3 0 3 x13.toNat 0))) (0 ≤ x13 ∧ x13 < ((l14.length : Nat) : Int)) (by kernel_rfl) (inb_of g18) ?_
        refine P_op k17 (.v (.one (.rptr 3 0 3 x13.toNat 2))) (by kernel_rfl) ?_
        refine P_opc k17 (.v (.one (.val (.bool ((l14.getD x13.toNat default).Ok))))) (x13.toNat < l14.length) (by kernel_rfl) (toNat_lt (inb_of g18)) ?_
        refine HOps_end (by kernel_rfl) ?_
        refine R_cond (.tmp 25) (nd Tryd.f20 [1, 1, 1, 0, 1, 0, 0, 1, 0, 0, 1, 0]) (nd Tryd.f20 [1, 1, 1, 0, 1, 0, 0, 1, 0, 0, 1, 1]) (by kernel_rfl) ((l14.getD x13.toNat default).Ok) (by kernel_rfl) (fun b19 => ?_) (fun b19 => ?_)
        · replace hm := bif_t b19 hm
          obtain ⟨v20, h21, hm⟩ := bind_s hm
          obtain ⟨v22, h23, hm⟩ := bind_s hm
          refine R_draw 8 (rg Tryd.f20 [1, 1, 1, 0, 1, 0, 0, 1, 0, 0, 1, 0]) (by kernel_rfl) [⟨true, .v (.one (.bptr 4 0 1)), [], [], [5], []⟩, ⟨true, .v (.one (.own 3 0 3 l14.length)), [], [], [26], [4]⟩, ⟨true, .v (.one (.val (.int .i64 x13))), [], [], [6], []⟩, ⟨true, .v (.one (.bptr 4 0 1)), [], [], [5], []⟩, ⟨true, .v (.one (.own 3 0 3 l14.length)), [], [], [29], [4]⟩, ⟨true, .v (.one (.val (.int .i64 x13))), [], [], [6], []⟩, ⟨true, .v (.one (.rptr 3 0 3 x13.toNat 0)), [], [], [30, 31], []⟩, ⟨true, .v (.one (.rptr 3 0 3 x13.toNat 0)), [], [], [32], []⟩, ⟨true, .v (.agg [.val (.int .i64 (((l14.getD x13.toNat default).P).X)), .val (.int .i64 (((l14.getD x13.toNat default).P).Y))]), [], [], [33], [3]⟩, ⟨true, .v (.one (.val (.int .i64 a2))), [], [], [1], []⟩, ⟨true, (ref09_Quarters_x v20).sh 5, obNv 5 (ref09_Quarters_o v20), obSh 5 (ref09_Quarters_o v20), [35], []⟩, ⟨true, (ref09_Turned_x v22).sh 5, obNv 5 (ref09_Turned_o v22), obSh 5 (ref09_Turned_o v22), [34, 36], []⟩, ⟨true, .v (.one (.rptr 3 0 3 x13.toNat 0)), [], [], [27, 28], []⟩, ⟨true, .v (.one (.rptr 3 0 3 x13.toNat 0)), [], [], [38], []⟩, ⟨true, .undef, [], [(3, (0, .row 44 3 l14.length (rowf e_Reading default (l14.set x13.toNat (Reading.mk v22 ((l14.getD x13.toNat default).Ok))))))], [37, 39], [3]⟩] [0, 1, 0, 0, 8, 0, 56, 120, 248, 0, 512, 2040, 4095, 8191, 16383] (by kernel_rfl) (by kernel_rfl) (by kernel_rfl) (by kernel_rfl) (by kernel_rfl) (by kernel_rfl) ?_ ?_
          · refine A_pure (.v (.one (.bptr 4 0 1))) [5] [] (True) (by kernel_rfl) trivial ?_
            refine A_pure (.v (.one (.own 3 0 3 l14.length))) [26] [4] (True) (by kernel_rfl) trivial ?_
            refine A_pure (.v (.one (.val (.int .i64 x13)))) [6] [] (True) (by kernel_rfl) trivial ?_
            refine A_pure (.v (.one (.bptr 4 0 1))) [5] [] (True) (by kernel_rfl) trivial ?_
            refine A_pure (.v (.one (.own 3 0 3 l14.length))) [29] [4] (True) (by kernel_rfl) trivial ?_
            refine A_pure (.v (.one (.val (.int .i64 x13)))) [6] [] (True) (by kernel_rfl) trivial ?_
            refine A_pure (.v (.one (.rptr 3 0 3 x13.toNat 0))) [30, 31] [] (0 ≤ x13 ∧ x13 < ((l14.length : Nat) : Int)) (by kernel_rfl) (inb_of g18) ?_
            refine A_pure (.v (.one (.rptr 3 0 3 x13.toNat 0))) [32] [] (True) (by kernel_rfl) trivial ?_
            refine A_pure (.v (.agg [.val (.int .i64 (((l14.getD x13.toNat default).P).X)), .val (.int .i64 (((l14.getD x13.toNat default).P).Y))])) [33] [3] (x13.toNat < l14.length) (by kernel_rfl) (toNat_lt (inb_of g18)) ?_
            refine A_pure (.v (.one (.val (.int .i64 a2)))) [1] [] (True) (by kernel_rfl) trivial ?_
            refine A_run ⟨true, (ref09_Quarters_x v20).sh 5, obNv 5 (ref09_Quarters_o v20), obSh 5 (ref09_Quarters_o v20), [35], []⟩ (by kernel_rfl) (Step_call (x := ref09_Quarters_x v20) (ob := ref09_Quarters_o v20) (f := 37) (args := [(.tmp 35)]) (fn := Tryd.f37) (ys := [.one (.val (.int .i64 a2))]) 5 (by kernel_rfl) (by kernel_rfl) (by kernel_rfl) (by kernel_rfl) (by kernel_rfl) (by kernel_rfl) rfl (ref09_Quarters_ok a2 v20 h21) (by kernel_rfl) (by kernel_rfl)) ?_
            refine A_run ⟨true, (ref09_Turned_x v22).sh 5, obNv 5 (ref09_Turned_o v22), obSh 5 (ref09_Turned_o v22), [34, 36], []⟩ (by kernel_rfl) (Step_call (x := ref09_Turned_x v22) (ob := ref09_Turned_o v22) (f := 36) (args := [(.tmp 34), (.tmp 36)]) (fn := Tryd.f36) (ys := [.agg [.val (.int .i64 (((l14.getD x13.toNat default).P).X)), .val (.int .i64 (((l14.getD x13.toNat default).P).Y))], .one (.val (.int .i64 v20))]) 5 (by kernel_rfl) (by kernel_rfl) (by kernel_rfl) (by kernel_rfl) (by kernel_rfl) (by kernel_rfl) rfl (ref09_Turned_ok ((l14.getD x13.toNat default).P) v20 v22 h23) (by kernel_rfl) (by kernel_rfl)) ?_
            refine A_pure (.v (.one (.rptr 3 0 3 x13.toNat 0))) [27, 28] [] (0 ≤ x13 ∧ x13 < ((l14.length : Nat) : Int)) (by kernel_rfl) (inb_of g18) ?_
            refine A_pure (.v (.one (.rptr 3 0 3 x13.toNat 0))) [38] [] (True) (by kernel_rfl) trivial ?_
            refine A_run ⟨true, .undef, [], [(3, (0, .row 44 3 l14.length (rowf e_Reading default (l14.set x13.toNat (Reading.mk v22 ((l14.getD x13.toNat default).Ok))))))], [37, 39], [3]⟩ (by kernel_rfl) (Step_store_row 38 (.tmp 39) (.tmp 37) 3 0 3 x13.toNat 0 44 l14.length (rowf e_Reading default l14) (rowf e_Reading default (l14.set x13.toNat (Reading.mk v22 ((l14.getD x13.toNat default).Ok)))) (.agg [.val (.int .i64 v22.X), .val (.int .i64 v22.Y)]) (by kernel_rfl) (by kernel_rfl) (by kernel_rfl) (by kernel_rfl) (by kernel_rfl) (by kernel_rfl) (by kernel_rfl) (by kernel_rfl) (toNat_lt (inb_of g18)) (rowf_set e_Reading default (Reading.mk v22 ((l14.getD x13.toNat default).Ok)) l14 l14.length x13.toNat 0 [.val (.int .i64 v22.X), .val (.int .i64 v22.Y)] rfl (by kernel_rfl))) ?_
            exact A_end
          · exact J_mk ((l14.set x13.toNat (Reading.mk v22 ((l14.getD x13.toNat default).Ok))), l14.length) ⟨(len_set rfl), hm⟩ (by kernel_rfl) (by kernel_rfl)
        · replace hm := bif_f b19 hm
          refine R_skip (by kernel_rfl) ?_
          exact J_mk (l14, l14.length) ⟨rfl, hm⟩ (by kernel_rfl) (by kernel_rfl)
    · replace hm := bif_f b16 hm
      refine R_exit 0 (by kernel_rfl) ?_
      obtain rfl := Option.some.inj hm
      exact L0_mk (by kernel_rfl) (by kernel_rfl)

set_option maxRecDepth 100000 in
theorem ref12_Turn_ok (a1 : Ring) (a2 : Int) (r : Ring) (hm : ref12_Turn a1 a2 = some r) : Ct Tryd.prog globs 20 [.agg [.val (.int .i64 a1.Z), tl e_Reading default a1.Read], .one (.val (.int .i64 a2))] (ref12_Turn_x r) (ref12_Turn_o r) := by
  unfold ref12_Turn at hm
  refine Ct_of_H (fn := Tryd.f20) (c := nd Tryd.f20 []) mixed (by kernel_rfl) (by kernel_rfl) (by kernel_rfl) fun w A hg => ?_
  show H ({ P := Tryd.prog, w0 := w, nt := 41, A := A, globs := globs, mixed := mixed, glob := hg } : Ctx) _ _ _
  refine R_seq (nd Tryd.f20 [0]) (nd Tryd.f20 [1]) (by kernel_rfl) ?_
  refine R_region 0 (rg Tryd.f20 [0]) (by kernel_rfl) ?_
  have k3 : opsOk 41 (rg Tryd.f20 [0]) = true := by kernel_rfl
  refine P_step k3 ([(1, 0)]) ([(1, (0, .box 24 [.val (.int .i64 a1.Z), tl e_Reading default a1.Read]))]) (.v (.one (.bptr 1 0 0))) (by kernel_rfl) (Step_box 24 (.tmp 0) 1 0 (.agg [.val (.int .i64 a1.Z), tl e_Reading default a1.Read]) (by kernel_rfl) (by kernel_rfl) (by kernel_rfl)) ?_
  refine P_step k3 ([(2, 0)]) ([(2, (0, .box 24 [.val (.int .i64 0), .emp]))]) (.v (.one (.bptr 2 0 0))) (by kernel_rfl) (Step_alloc 24 2 0 [.val (.int .i64 0), .emp] (by kernel_rfl) (by kernel_rfl) (by kernel_rfl)) ?_
  refine HOps_end (by kernel_rfl) ?_
  refine R_seq (nd Tryd.f20 [1, 0]) (nd Tryd.f20 [1, 1]) (by kernel_rfl) ?_
  refine R_region 1 (rg Tryd.f20 [1, 0]) (by kernel_rfl) ?_
  have k4 : opsOk 41 (rg Tryd.f20 [1, 0]) = true := by kernel_rfl
  refine P_op k4 (.v (.agg [.val (.int .i64 a1.Z), tl e_Reading default a1.Read])) (by kernel_rfl) ?_
  obtain ⟨v5, h6, hm⟩ := bind_s hm
  refine P_step k4 (obNv 3 (ref12_copied_o v5)) (obSh 3 (ref12_copied_o v5)) ((ref12_copied_x v5).sh 3) (by kernel_rfl) (Step_call (x := ref12_copied_x v5) (ob := ref12_copied_o v5) (f := 32) (args := [(.tmp 7)]) (fn := Tryd.f32) (ys := [.agg [.val (.int .i64 a1.Z), tl e_Reading default a1.Read]]) 3 (by kernel_rfl) (by kernel_rfl) (by kernel_rfl) (by kernel_rfl) (by kernel_rfl) (by kernel_rfl) rfl (ref12_copied_ok a1 v5 h6) (by kernel_rfl) (by kernel_rfl)) ?_
  refine P_step k4 ([(4, 0)]) ([(4, (0, .box 24 [.val (.int .i64 0), .emp]))]) (.v (.one (.bptr 4 0 0))) (by kernel_rfl) (Step_alloc 24 4 0 [.val (.int .i64 0), .emp] (by kernel_rfl) (by kernel_rfl) (by kernel_rfl)) ?_
  refine P_write k4 ([(4, (0, .box 24 [.val (.int .i64 v5.Z), .own 3 0 3 v5.Read.length]))]) (.undef) (by kernel_rfl) (Step_store_box 24 (.tmp 5) (.tmp 8) 4 0 0 24 [.val (.int .i64 0), .emp] (.agg [.val (.int .i64 v5.Z), .own 3 0 3 v5.Read.length]) [.val (.int .i64 v5.Z), .own 3 0 3 v5.Read.length] (by kernel_rfl) (by kernel_rfl) (by kernel_rfl) (by kernel_rfl) (by kernel_rfl) (by kernel_rfl) (by kernel_rfl) (by kernel_rfl)) ?_
  refine HOps_end (by kernel_rfl) ?_
  refine R_seq (nd Tryd.f20 [1, 1, 0]) (nd Tryd.f20 [1, 1, 1]) (by kernel_rfl) ?_
  refine R_seq (nd Tryd.f20 [1, 1, 0, 0]) (nd Tryd.f20 [1, 1, 0, 1]) (by kernel_rfl) ?_
  refine R_region 2 (rg Tryd.f20 [1, 1, 0, 0]) (by kernel_rfl) ?_
  have k7 : opsOk 41 (rg Tryd.f20 [1, 1, 0, 0]) = true := by kernel_rfl
  refine P_op k7 (.v (.agg [.val (.int .i64 a1.Z), tl e_Reading default a1.Read])) (by kernel_rfl) ?_
  obtain ⟨v8, h9, hm⟩ := bind_s hm
  refine P_step k7 (obNv 5 (ref12_Check_o v8)) (obSh 5 (ref12_Check_o v8)) ((ref12_Check_x v8).sh 5) (by kernel_rfl) (Step_call (x := ref12_Check_x v8) (ob := ref12_Check_o v8) (f := 15) (args := [(.tmp 9)]) (fn := Tryd.f15) (ys := [.agg [.val (.int .i64 a1.Z), tl e_Reading default a1.Read]]) 5 (by kernel_rfl) (by kernel_rfl) (by kernel_rfl) (by kernel_rfl) (by kernel_rfl) (by kernel_rfl) rfl (ref12_Check_ok a1 v8 h9) (by kernel_rfl) (by kernel_rfl)) ?_
  refine P_op k7 (.v (.one (.val (.bool (v8 != 0))))) (by kernel_rfl) ?_
  refine HOps_end (by kernel_rfl) ?_
  refine R_cond (.tmp 11) (nd Tryd.f20 [1, 1, 0, 1, 0]) (nd Tryd.f20 [1, 1, 0, 1, 1]) (by kernel_rfl) (v8 != 0) (by kernel_rfl) (fun b10 => ?_) (fun b10 => ?_)
  · replace hm := bif_t b10 hm
    refine R_seq (nd Tryd.f20 [1, 1, 0, 1, 0, 0]) (nd Tryd.f20 [1, 1, 0, 1, 0, 1]) (by kernel_rfl) ?_
    refine R_region 3 (rg Tryd.f20 [1, 1, 0, 1, 0, 0]) (by kernel_rfl) ?_
    have k11 : opsOk 41 (rg Tryd.f20 [1, 1, 0, 1, 0, 0]) = true := by kernel_rfl
    refine P_op k11 (.v (.agg [.val (.int .i64 v5.Z), .own 3 0 3 v5.Read.length])) (by kernel_rfl) ?_
    refine P_write k11 ([(2, (0, .box 24 [.val (.int .i64 v5.Z), .own 3 0 3 v5.Read.length]))]) (.undef) (by kernel_rfl) (Step_store_box 24 (.tmp 4) (.tmp 12) 2 0 0 24 [.val (.int .i64 0), .emp] (.agg [.val (.int .i64 v5.Z), .own 3 0 3 v5.Read.length]) [.val (.int .i64 v5.Z), .own 3 0 3 v5.Read.length] (by kernel_rfl) (by kernel_rfl) (by kernel_rfl) (by kernel_rfl) (by kernel_rfl) (by kernel_rfl) (by kernel_rfl) (by kernel_rfl)) ?_
    refine HOps_end (by kernel_rfl) ?_
    obtain rfl := Option.some.inj hm
    refine H_swap 3 0 ?_
    refine R_ret (by kernel_rfl) ?_
    exact ret_mk (by kernel_rfl) (by kernel_rfl)
  · replace hm := bif_f b10 hm
    refine R_skip (by kernel_rfl) ?_
    refine R_seq (nd Tryd.f20 [1, 1, 1, 0]) (nd Tryd.f20 [1, 1, 1, 1]) (by kernel_rfl) ?_
    refine R_seq (nd Tryd.f20 [1, 1, 1, 0, 0]) (nd Tryd.f20 [1, 1, 1, 0, 1]) (by kernel_rfl) ?_
    refine R_region 4 (rg Tryd.f20 [1, 1, 1, 0, 0]) (by kernel_rfl) ?_
    have k12 : opsOk 41 (rg Tryd.f20 [1, 1, 1, 0, 0]) = true := by kernel_rfl
    refine P_op k12 (.v (.one (.val (.int .i64 0)))) (by kernel_rfl) ?_
    refine HOps_end (by kernel_rfl) ?_
    obtain ⟨o27, h28, hm⟩ := bind_s hm
    refine R_loop0 (nd Tryd.f20 [1, 1, 1, 0, 1, 0, 0]) 0 (by kernel_rfl) FUEL (fun o => ref12_Turn_L1_T v5 o) o27 (HL_enter (ref12_Turn_L1_S a2 v5 0 v5.Read v5.Read.length) (by kernel_rfl) (by kernel_rfl) (ref12_Turn_L1_ok w A hg a2 v5 FUEL 0 v5.Read v5.Read.length o27 rfl h28)) ?_
    refine R_seq (nd Tryd.f20 [1, 1, 1, 1, 0]) (nd Tryd.f20 [1, 1, 1, 1, 1]) (by kernel_rfl) ?_
    refine R_region 9 (rg Tryd.f20 [1, 1, 1, 1, 0]) (by kernel_rfl) ?_
    have k29 : opsOk 41 (rg Tryd.f20 [1, 1, 1, 1, 0]) = true := by kernel_rfl
    refine P_op k29 (.v (.agg [.val (.int .i64 v5.Z), .own 3 0 3 o27.length])) (by kernel_rfl) ?_
    refine P_write k29 ([(2, (0, .box 24 [.val (.int .i64 v5.Z), .own 3 0 3 o27.length]))]) (.undef) (by kernel_rfl) (Step_store_box 24 (.tmp 4) (.tmp 40) 2 0 0 24 [.val (.int .i64 0), .emp] (.agg [.val (.int .i64 v5.Z), .own 3 0 3 o27.length]) [.val (.int .i64 v5.Z), .own 3 0 3 o27.length] (by kernel_rfl) (by kernel_rfl) (by kernel_rfl) (by kernel_rfl) (by kernel_rfl) (by kernel_rfl) (by kernel_rfl) (by kernel_rfl)) ?_
    refine HOps_end (by kernel_rfl) ?_
    obtain rfl := Option.some.inj hm
    refine H_swap 3 0 ?_
    refine R_ret (by kernel_rfl) ?_
    exact ret_mk (by kernel_rfl) (by kernel_rfl)

end Saw
end Go.SL
