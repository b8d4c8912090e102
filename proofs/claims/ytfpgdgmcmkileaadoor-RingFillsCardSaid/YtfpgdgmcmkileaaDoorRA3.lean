import Derived.Test.YtfpgdgmcmkileaaDoorRBase
import Derived.Test.YtfpgdgmcmkileaaDoorRA1
import Derived.Test.YtfpgdgmcmkileaaDoorRA2
set_option linter.unusedVariables false
set_option linter.unusedSimpArgs false
namespace Go.SL
namespace Saw
open Go.Proofs
set_option maxHeartbeats 4000000

def ring_far_x (r : Bool) : V := .v (.one (.val (.bool r)))

def ring_far_o (r : Bool) : List (Nat × (Nat × O)) := []

theorem ring_far_f (r : Bool) : Frozen (ring_far_o r) := by
  intro i k o h
  unfold ring_far_o at h
  cases h

def ring_far_k1_S (x7 : Bool) : St :=
  { slots := [(6, .v (.one (.val (.bool x7))))], objs := [] }

set_option maxRecDepth 100000 in
theorem ring_far_ok (a1 : Point) (a2 : Point) (a3 : Int) (r : Bool) (hm : ring_far a1 a2 a3 = some r) : Ct Tryd.prog globs 31 [.agg [.val (.int .i64 a1.X), .val (.int .i64 a1.Y)], .agg [.val (.int .i64 a2.X), .val (.int .i64 a2.Y)], .one (.val (.int .i64 a3))] (ring_far_x r) (ring_far_o r) := by
  unfold ring_far at hm
  refine Ct_of_H (fn := Tryd.f31) (c := nd Tryd.f31 []) mixed (by kernel_rfl) (by kernel_rfl) (by kernel_rfl) fun w A hg => ?_
  show H ({ P := Tryd.prog, w0 := w, nt := 35, A := A, globs := globs, mixed := mixed, glob := hg } : Ctx) _ _ _
  refine R_seq (nd Tryd.f31 [0]) (nd Tryd.f31 [1]) (by kernel_rfl) ?_
  refine R_region 0 (rg Tryd.f31 [0]) (by kernel_rfl) ?_
  have k4 : opsOk 35 (rg Tryd.f31 [0]) = true := by kernel_rfl
  refine P_step k4 ([(1, 0)]) ([(1, (0, .box 38 [.val (.int .i64 a1.X), .val (.int .i64 a1.Y)]))]) (.v (.one (.bptr 1 0 0))) (by kernel_rfl) (Step_box 38 (.tmp 0) 1 0 (.agg [.val (.int .i64 a1.X), .val (.int .i64 a1.Y)]) (by kernel_rfl) (by kernel_rfl) (by kernel_rfl)) ?_
  refine P_step k4 ([(2, 0)]) ([(2, (0, .box 38 [.val (.int .i64 a2.X), .val (.int .i64 a2.Y)]))]) (.v (.one (.bptr 2 0 0))) (by kernel_rfl) (Step_box 38 (.tmp 1) 2 0 (.agg [.val (.int .i64 a2.X), .val (.int .i64 a2.Y)]) (by kernel_rfl) (by kernel_rfl) (by kernel_rfl)) ?_
  refine P_op k4 (.v (.one (.val (.bool false)))) (by kernel_rfl) ?_
  refine HOps_end (by kernel_rfl) ?_
  refine R_join (ι := Bool) (nd Tryd.f31 [1, 0]) (nd Tryd.f31 [1, 1]) (by kernel_rfl) (fun p => ring_far_k1_S p) (fun p => ring_far_k1 p = some r) ?_ ?_
  · rintro x7 hm
    show H _ (ring_far_k1_S x7) (nd Tryd.f31 [1, 1]) _
    obtain rfl := Option.some.inj hm
    refine R_ret (by kernel_rfl) ?_
    exact ret_mk (by kernel_rfl) (by kernel_rfl)
  · refine R_region 1 (rg Tryd.f31 [1, 0]) (by kernel_rfl) ?_
    have k5 : opsOk 35 (rg Tryd.f31 [1, 0]) = true := by kernel_rfl
    refine P_op k5 (.v (.one (.bptr 1 0 0))) (by kernel_rfl) ?_
    refine P_op k5 (.v (.one (.val (.int .i64 a1.X)))) (by kernel_rfl) ?_
    refine P_op k5 (.v (.one (.bptr 2 0 0))) (by kernel_rfl) ?_
    refine P_op k5 (.v (.one (.val (.int .i64 a2.X)))) (by kernel_rfl) ?_
    refine P_op k5 (.v (.one (.val (.int .i64 (w64 (a1.X - a2.X)))))) (by kernel_rfl) ?_
    refine P_op k5 (.v (.one (.bptr 2 0 0))) (by kernel_rfl) ?_
    refine P_op k5 (.v (.one (.val (.int .i64 a2.X)))) (by kernel_rfl) ?_
    refine P_op k5 (.v (.one (.bptr 1 0 0))) (by kernel_rfl) ?_
    refine P_op k5 (.v (.one (.val (.int .i64 a1.X)))) (by kernel_rfl) ?_
    refine P_op k5 (.v (.one (.val (.int .i64 (w64 (a2.X - a1.X)))))) (by kernel_rfl) ?_
    refine P_op k5 (.v (.one (.val (.int .i64 (imax (w64 (a1.X - a2.X)) (w64 (a2.X - a1.X))))))) (by kernel_rfl) ?_
    refine P_op k5 (.v (.one (.val (.int .i64 a3)))) (by kernel_rfl) ?_
    refine P_op k5 (.v (.one (.val (.bool (decide ((imax (w64 (a1.X - a2.X)) (w64 (a2.X - a1.X))) > a3)))))) (by kernel_rfl) ?_
    refine P_op k5 (.v (.one (.val (.bool (decide ((imax (w64 (a1.X - a2.X)) (w64 (a2.X - a1.X))) > a3)))))) (by kernel_rfl) ?_
    refine HOps_bool 20 (decide ((imax (w64 (a1.X - a2.X)) (w64 (a2.X - a1.X))) > a3)) (by kernel_rfl) (fun b6 => ?_) (fun b6 => ?_)
    · replace hm := bif_t b6 hm
      refine P_skip k5 (by kernel_rfl) ?_
      refine P_skip k5 (by kernel_rfl) ?_
      refine P_skip k5 (by kernel_rfl) ?_
      refine P_skip k5 (by kernel_rfl) ?_
      refine P_skip k5 (by kernel_rfl) ?_
      refine P_skip k5 (by kernel_rfl) ?_
      refine P_skip k5 (by kernel_rfl) ?_
      refine P_skip k5 (by kernel_rfl) ?_
      refine P_skip k5 (by kernel_rfl) ?_
      refine P_skip k5 (by kernel_rfl) ?_
      refine P_skip k5 (by kernel_rfl) ?_
      refine P_skip k5 (by kernel_rfl) ?_
      refine P_skip k5 (by kernel_rfl) ?_
      refine P_op k5 (.v (.one (.val (.bool true)))) (by kernel_rfl) ?_
      refine P_op k5 (.v (.one (.val (.bool true)))) (by kernel_rfl) ?_
      refine HOps_end (by kernel_rfl) ?_
      exact J_mk (true) hm (by kernel_rfl) (by kernel_rfl)
    · replace hm := bif_f b6 hm
      refine P_op k5 (.v (.one (.bptr 1 0 1))) (by kernel_rfl) ?_
      refine P_op k5 (.v (.one (.val (.int .i64 a1.Y)))) (by kernel_rfl) ?_
      refine P_op k5 (.v (.one (.bptr 2 0 1))) (by kernel_rfl) ?_
      refine P_op k5 (.v (.one (.val (.int .i64 a2.Y)))) (by kernel_rfl) ?_
      refine P_op k5 (.v (.one (.val (.int .i64 (w64 (a1.Y - a2.Y)))))) (by kernel_rfl) ?_
      refine P_op k5 (.v (.one (.bptr 2 0 1))) (by kernel_rfl) ?_
      refine P_op k5 (.v (.one (.val (.int .i64 a2.Y)))) (by kernel_rfl) ?_
      refine P_op k5 (.v (.one (.bptr 1 0 1))) (by kernel_rfl) ?_
      refine P_op k5 (.v (.one (.val (.int .i64 a1.Y)))) (by kernel_rfl) ?_
      refine P_op k5 (.v (.one (.val (.int .i64 (w64 (a2.Y - a1.Y)))))) (by kernel_rfl) ?_
      refine P_op k5 (.v (.one (.val (.int .i64 (imax (w64 (a1.Y - a2.Y)) (w64 (a2.Y - a1.Y))))))) (by kernel_rfl) ?_
      refine P_op k5 (.v (.one (.val (.int .i64 a3)))) (by kernel_rfl) ?_
      refine P_op k5 (.v (.one (.val (.bool (decide ((imax (w64 (a1.Y - a2.Y)) (w64 (a2.Y - a1.Y))) > a3)))))) (by kernel_rfl) ?_
      refine P_op k5 (.v (.one (.val (.bool (decide ((imax (w64 (a1.Y - a2.Y)) (w64 (a2.Y - a1.Y))) > a3)))))) (by kernel_rfl) ?_
      refine P_op k5 (.v (.one (.val (.bool (decide ((imax (w64 (a1.Y - a2.Y)) (w64 (a2.Y - a1.Y))) > a3)))))) (by kernel_rfl) ?_
      refine HOps_end (by kernel_rfl) ?_
      exact J_mk (decide ((imax (w64 (a1.Y - a2.Y)) (w64 (a2.Y - a1.Y))) > a3)) hm (by kernel_rfl) (by kernel_rfl)

end Saw
end Go.SL

namespace Go.SL
namespace Saw
open Go.Proofs
set_option maxHeartbeats 4000000

def ring_Clean_x (r : Ring) : V := .v (.agg [.val (.int .i64 r.Z), .own 0 0 3 r.Read.length])

def ring_Clean_o (r : Ring) : List (Nat × (Nat × O)) := [(0, (0, .row 44 3 r.Read.length (rowf e_Reading default r.Read)))]

theorem ring_Clean_f (r : Ring) : Frozen (ring_Clean_o r) := by
  intro i k o h
  unfold ring_Clean_o at h
  rw [look_cons] at h
  split at h
  · cases h; exact fun _ _ => rfl
  · cases h

def ring_Clean_k4_S (a1 : Ring) (a2 : Int) (v5 : Ring) (v8 : (List Int)) (x19 : Int) (l20 : List Reading) (x28 : Int) (x40 : Bool) : St :=
  { slots := [(1, .v (.one (.val (.int .i64 a2)))), (2, .v (.one (.bptr 1 0 0))), (4, .v (.one (.bptr 2 0 0))), (5, .v (.one (.bptr 4 0 0))), (6, .v (.one (.own 5 0 1 v8.length))), (7, .v (.one (.val (.int .i64 x19)))), (8, .v (.one (.val (.int .i64 (v8.getD x19.toNat default))))), (9, .v (.one (.val (.bool x40)))), (30, .v (.one (.own 5 0 1 v8.length))), (31, .v (.one (.val (.int .i64 ((v8.length : Nat) : Int))))), (32, .v (.one (.val (.int .i64 x19)))), (37, .v (.agg [.val (.int .i64 (-1)), .val (.int .i64 1)])), (38, .v (.one (.val (.int .i64 x28))))], objs := [(1, (0, .box 24 [.val (.int .i64 a1.Z), tl e_Reading default a1.Read])), (2, (0, .box 24 [.val (.int .i64 0), .emp])), (3, (0, .row 44 3 l20.length (rowf e_Reading default l20))), (4, (0, .box 24 [.val (.int .i64 v5.Z), .own 3 0 3 l20.length])), (5, (0, .row 3 1 v8.length (rowf e_i64 default v8)))] }

def ring_Clean_L3_S (a1 : Ring) (a2 : Int) (v5 : Ring) (v8 : (List Int)) (x19 : Int) (l20 : List Reading) (x27 : Bool) (x28 : Int) : St :=
  { slots := [(1, .v (.one (.val (.int .i64 a2)))), (2, .v (.one (.bptr 1 0 0))), (4, .v (.one (.bptr 2 0 0))), (5, .v (.one (.bptr 4 0 0))), (6, .v (.one (.own 5 0 1 v8.length))), (7, .v (.one (.val (.int .i64 x19)))), (8, .v (.one (.val (.int .i64 (v8.getD x19.toNat default))))), (9, .v (.one (.val (.bool x27)))), (30, .v (.one (.own 5 0 1 v8.length))), (31, .v (.one (.val (.int .i64 ((v8.length : Nat) : Int))))), (32, .v (.one (.val (.int .i64 x19)))), (37, .v (.agg [.val (.int .i64 (-1)), .val (.int .i64 1)])), (38, .v (.one (.val (.int .i64 x28))))], objs := [(1, (0, .box 24 [.val (.int .i64 a1.Z), tl e_Reading default a1.Read])), (2, (0, .box 24 [.val (.int .i64 0), .emp])), (3, (0, .row 44 3 l20.length (rowf e_Reading default l20))), (4, (0, .box 24 [.val (.int .i64 v5.Z), .own 3 0 3 l20.length])), (5, (0, .row 3 1 v8.length (rowf e_i64 default v8)))] }

def ring_Clean_L3_T (a1 : Ring) (a2 : Int) (v5 : Ring) (v8 : (List Int)) (x19 : Int) (l20 : List Reading) (x42 : Bool) : St :=
  { slots := [(1, .v (.one (.val (.int .i64 a2)))), (2, .v (.one (.bptr 1 0 0))), (4, .v (.one (.bptr 2 0 0))), (5, .v (.one (.bptr 4 0 0))), (6, .v (.one (.own 5 0 1 v8.length))), (8, .v (.one (.val (.int .i64 (v8.getD x19.toNat default))))), (9, .v (.one (.val (.bool x42)))), (30, .v (.one (.own 5 0 1 v8.length))), (31, .v (.one (.val (.int .i64 ((v8.length : Nat) : Int))))), (32, .v (.one (.val (.int .i64 x19))))], objs := [(1, (0, .box 24 [.val (.int .i64 a1.Z), tl e_Reading default a1.Read])), (2, (0, .box 24 [.val (.int .i64 0), .emp])), (3, (0, .row 44 3 l20.length (rowf e_Reading default l20))), (4, (0, .box 24 [.val (.int .i64 v5.Z), .own 3 0 3 l20.length])), (5, (0, .row 3 1 v8.length (rowf e_i64 default v8)))] }

def ring_Clean_k5_S (a1 : Ring) (a2 : Int) (v5 : Ring) (v8 : (List Int)) (x19 : Int) (l49 : List Reading) (l49n : Nat) : St :=
  { slots := [(1, .v (.one (.val (.int .i64 a2)))), (2, .v (.one (.bptr 1 0 0))), (4, .v (.one (.bptr 2 0 0))), (5, .v (.one (.bptr 4 0 0))), (6, .v (.one (.own 5 0 1 v8.length))), (30, .v (.one (.own 5 0 1 v8.length))), (31, .v (.one (.val (.int .i64 ((v8.length : Nat) : Int))))), (32, .v (.one (.val (.int .i64 x19))))], objs := [(1, (0, .box 24 [.val (.int .i64 a1.Z), tl e_Reading default a1.Read])), (2, (0, .box 24 [.val (.int .i64 0), .emp])), (3, (0, .row 44 3 l49n (rowf e_Reading default l49))), (4, (0, .box 24 [.val (.int .i64 v5.Z), .own 3 0 3 l49n])), (5, (0, .row 3 1 v8.length (rowf e_i64 default v8)))] }

def ring_Clean_L2_S (a1 : Ring) (a2 : Int) (v5 : Ring) (v8 : (List Int)) (x19 : Int) (l20 : List Reading) (l20n : Nat) : St :=
  { slots := [(1, .v (.one (.val (.int .i64 a2)))), (2, .v (.one (.bptr 1 0 0))), (4, .v (.one (.bptr 2 0 0))), (5, .v (.one (.bptr 4 0 0))), (6, .v (.one (.own 5 0 1 v8.length))), (30, .v (.one (.own 5 0 1 v8.length))), (31, .v (.one (.val (.int .i64 ((v8.length : Nat) : Int))))), (32, .v (.one (.val (.int .i64 x19))))], objs := [(1, (0, .box 24 [.val (.int .i64 a1.Z), tl e_Reading default a1.Read])), (2, (0, .box 24 [.val (.int .i64 0), .emp])), (3, (0, .row 44 3 l20n (rowf e_Reading default l20))), (4, (0, .box 24 [.val (.int .i64 v5.Z), .own 3 0 3 l20n])), (5, (0, .row 3 1 v8.length (rowf e_i64 default v8)))] }

def ring_Clean_L2_T (v5 : Ring) (l51 : List Reading) : St :=
  { slots := [(4, .v (.one (.bptr 2 0 0))), (5, .v (.one (.bptr 4 0 0)))], objs := [(2, (0, .box 24 [.val (.int .i64 0), .emp])), (3, (0, .row 44 3 l51.length (rowf e_Reading default l51))), (4, (0, .box 24 [.val (.int .i64 v5.Z), .own 3 0 3 l51.length]))] }

def ring_Clean_k1_S (a1 : Ring) (a2 : Int) (v5 : Ring) (v8 : (List Int)) (x15 : Bool) : St :=
  { slots := [(1, .v (.one (.val (.int .i64 a2)))), (2, .v (.one (.bptr 1 0 0))), (4, .v (.one (.bptr 2 0 0))), (5, .v (.one (.bptr 4 0 0))), (6, .v (.one (.own 5 0 1 v8.length))), (28, .v (.one (.val (.bool x15))))], objs := [(1, (0, .box 24 [.val (.int .i64 a1.Z), tl e_Reading default a1.Read])), (2, (0, .box 24 [.val (.int .i64 0), .emp])), (3, (0, .row 44 3 v5.Read.length (rowf e_Reading default v5.Read))), (4, (0, .box 24 [.val (.int .i64 v5.Z), .own 3 0 3 v5.Read.length])), (5, (0, .row 3 1 v8.length (rowf e_i64 default v8)))] }

set_option maxRecDepth 100000 in
theorem ring_Clean_L3_ok (w : World) (A : Nat → Prop) (hg : Globs globs w A) (a1 : Ring) (a2 : Int) (v5 : Ring) (v8 : (List Int)) (x19 : Int) (l20 : List Reading) : ∀ (n : Nat) (x27 : Bool) (x28 : Int) (res : Bool), ring_Clean_L3 a1 a2 v8 x19 n x27 x28 = some res → HL ({ P := Tryd.prog, w0 := w, nt := 79, A := A, globs := globs, mixed := mixed, glob := hg } : Ctx) (nd Tryd.f17 [1, 1, 1, 1, 0, 1, 0, 0, 1, 1, 0, 0, 1, 1, 0, 1, 0, 0]) (loopQ0 2 (fun o => ring_Clean_L3_T a1 a2 v5 v8 x19 l20 o) res) n (ring_Clean_L3_S a1 a2 v5 v8 x19 l20 x27 x28) := by
  intro n
  induction n with
  | zero =>
    intro x27 x28 res hm
    cases hm
  | succ n ih =>
    intro x27 x28 res hm
    refine HL_succ ?_
    refine R_seq (nd Tryd.f17 [1, 1, 1, 1, 0, 1, 0, 0, 1, 1, 0, 0, 1, 1, 0, 1, 0, 0, 0]) (nd Tryd.f17 [1, 1, 1, 1, 0, 1, 0, 0, 1, 1, 0, 0, 1, 1, 0, 1, 0, 0, 1]) (by kernel_rfl) ?_
    refine R_region 10 (rg Tryd.f17 [1, 1, 1, 1, 0, 1, 0, 0, 1, 1, 0, 0, 1, 1, 0, 1, 0, 0, 0]) (by kernel_rfl) ?_
    have k29 : opsOk 79 (rg Tryd.f17 [1, 1, 1, 1, 0, 1, 0, 0, 1, 1, 0, 0, 1, 1, 0, 1, 0, 0, 0]) = true := by kernel_rfl
    refine P_op k29 (.v (.one (.val (.bool (decide (x28 < 2)))))) (by kernel_rfl) ?_
    refine HOps_end (by kernel_rfl) ?_
    refine R_seq (nd Tryd.f17 [1, 1, 1, 1, 0, 1, 0, 0, 1, 1, 0, 0, 1, 1, 0, 1, 0, 0, 1, 0]) (nd Tryd.f17 [1, 1, 1, 1, 0, 1, 0, 0, 1, 1, 0, 0, 1, 1, 0, 1, 0, 0, 1, 1]) (by kernel_rfl) ?_
    refine R_cond (.tmp 39) (nd Tryd.f17 [1, 1, 1, 1, 0, 1, 0, 0, 1, 1, 0, 0, 1, 1, 0, 1, 0, 0, 1, 0, 0]) (nd Tryd.f17 [1, 1, 1, 1, 0, 1, 0, 0, 1, 1, 0, 0, 1, 1, 0, 1, 0, 0, 1, 0, 1]) (by kernel_rfl) (decide (x28 < 2)) (by kernel_rfl) (fun b30 => ?_) (fun b30 => ?_)
    · replace hm := bif_t b30 hm
      refine R_skip (by kernel_rfl) ?_
      refine R_join (ι := Bool) (nd Tryd.f17 [1, 1, 1, 1, 0, 1, 0, 0, 1, 1, 0, 0, 1, 1, 0, 1, 0, 0, 1, 1, 0]) (nd Tryd.f17 [1, 1, 1, 1, 0, 1, 0, 0, 1, 1, 0, 0, 1, 1, 0, 1, 0, 0, 1, 1, 1]) (by kernel_rfl) (fun p => ring_Clean_k4_S a1 a2 v5 v8 x19 l20 x28 p) (fun p => ring_Clean_k4 x28 (ring_Clean_L3 a1 a2 v8 x19 n) p = some res) ?_ ?_
      · rintro x40 hm
        show H _ (ring_Clean_k4_S a1 a2 v5 v8 x19 l20 x28 x40) (nd Tryd.f17 [1, 1, 1, 1, 0, 1, 0, 0, 1, 1, 0, 0, 1, 1, 0, 1, 0, 0, 1, 1, 1]) _
        refine R_region 14 (rg Tryd.f17 [1, 1, 1, 1, 0, 1, 0, 0, 1, 1, 0, 0, 1, 1, 0, 1, 0, 0, 1, 1, 1]) (by kernel_rfl) ?_
        have k41 : opsOk 79 (rg Tryd.f17 [1, 1, 1, 1, 0, 1, 0, 0, 1, 1, 0, 0, 1, 1, 0, 1, 0, 0, 1, 1, 1]) = true := by kernel_rfl
        refine P_op k41 (.v (.one (.val (.int .i64 (w64 (x28 + 1)))))) (by kernel_rfl) ?_
        refine P_op k41 (.v (.one (.val (.int .i64 (w64 (x28 + 1)))))) (by kernel_rfl) ?_
        refine HOps_end (by kernel_rfl) ?_
        exact HL_enter (ring_Clean_L3_S a1 a2 v5 v8 x19 l20 x40 (w64 (x28 + 1))) (by kernel_rfl) (by kernel_rfl) (ih x40 (w64 (x28 + 1)) _ hm)
      · refine R_block 3 (nd Tryd.f17 [1, 1, 1, 1, 0, 1, 0, 0, 1, 1, 0, 0, 1, 1, 0, 1, 0, 0, 1, 1, 0, 0]) (by kernel_rfl) ?_
        refine R_seq (nd Tryd.f17 [1, 1, 1, 1, 0, 1, 0, 0, 1, 1, 0, 0, 1, 1, 0, 1, 0, 0, 1, 1, 0, 0, 0]) (nd Tryd.f17 [1, 1, 1, 1, 0, 1, 0, 0, 1, 1, 0, 0, 1, 1, 0, 1, 0, 0, 1, 1, 0, 0, 1]) (by kernel_rfl) ?_
        refine R_region 11 (rg Tryd.f17 [1, 1, 1, 1, 0, 1, 0, 0, 1, 1, 0, 0, 1, 1, 0, 1, 0, 0, 1, 1, 0, 0, 0]) (by kernel_rfl) ?_
        have k31 : opsOk 79 (rg Tryd.f17 [1, 1, 1, 1, 0, 1, 0, 0, 1, 1, 0, 0, 1, 1, 0, 1, 0, 0, 1, 1, 0, 0, 0]) = true := by kernel_rfl
        obtain ⟨g32, hm⟩ := bif_n hm
        refine P_opc k31 (.v (.one (.val (.int .i64 (([(-1), 1] : List Int).getD x28.toNat 0))))) (0 ≤ (x28 : Int) ∧ (x28 : Int) < ((2 : Nat) : Int)) (by kernel_rfl) (inb_of g32) ?_
        refine P_op k31 (.v (.one (.val (.int .i64 (([(-1), 1] : List Int).getD x28.toNat 0))))) (by kernel_rfl) ?_
        refine HOps_end (by kernel_rfl) ?_
        refine R_seq (nd Tryd.f17 [1, 1, 1, 1, 0, 1, 0, 0, 1, 1, 0, 0, 1, 1, 0, 1, 0, 0, 1, 1, 0, 0, 1, 0]) (nd Tryd.f17 [1, 1, 1, 1, 0, 1, 0, 0, 1, 1, 0, 0, 1, 1, 0, 1, 0, 0, 1, 1, 0, 0, 1, 1]) (by kernel_rfl) ?_
        obtain ⟨g33, hm⟩ := bif_n hm
        obtain ⟨g34, hm⟩ := bif_n hm
        obtain ⟨g35, hm⟩ := bif_n hm
        refine R_draw 12 (rg Tryd.f17 [1, 1, 1, 1, 0, 1, 0, 0, 1, 1, 0, 0, 1, 1, 0, 1, 0, 0, 1, 1, 0, 0, 1, 0]) (by kernel_rfl) [⟨true, .v (.one (.bptr 1 0 1)), [], [], [2], []⟩, ⟨true, .v (.one (tl e_Reading default a1.Read)), [], [], [41], [1]⟩, ⟨true, .v (.one (.own 5 0 1 v8.length)), [], [], [6], []⟩, ⟨true, .v (.one (.val (.int .i64 x19))), [], [], [7], []⟩, ⟨true, .v (.one (.own 5 0 1 v8.length)), [], [], [6], []⟩, ⟨true, .v (.one (.val (.int .i64 ((v8.length : Nat) : Int)))), [], [], [45], []⟩, ⟨true, .v (.one (.val (.int .i64 (w64 (x19 + ((v8.length : Nat) : Int)))))), [], [], [44, 46], []⟩, ⟨true, .v (.one (.val (.int .i64 (([(-1), 1] : List Int).getD x28.toNat 0)))), [], [], [11], []⟩, ⟨true, .v (.one (.val (.int .i64 (w64 ((w64 (x19 + ((v8.length : Nat) : Int))) + (([(-1), 1] : List Int).getD x28.toNat 0)))))), [], [], [47, 48], []⟩, ⟨true, .v (.one (.own 5 0 1 v8.length)), [], [], [6], []⟩, ⟨true, .v (.one (.val (.int .i64 ((v8.length : Nat) : Int)))), [], [], [50], []⟩, ⟨true, .v (.one (.val (.int .i64 (Int.tmod (w64 ((w64 (x19 + ((v8.length : Nat) : Int))) + (([(-1), 1] : List Int).getD x28.toNat 0))) ((v8.length : Nat) : Int))))), [], [], [49, 51], []⟩, ⟨true, .v (.one (.rptr 5 0 1 ((Int.tmod (w64 ((w64 (x19 + ((v8.length : Nat) : Int))) + (([(-1), 1] : List Int).getD x28.toNat 0))) ((v8.length : Nat) : Int)).toNat) 0)), [], [], [43, 52], []⟩, ⟨true, .v (.one (.val (.int .i64 (v8.getD ((Int.tmod (w64 ((w64 (x19 + ((v8.length : Nat) : Int))) + (([(-1), 1] : List Int).getD x28.toNat 0))) ((v8.length : Nat) : Int)).toNat) default)))), [], [], [53], [5]⟩, ⟨true, .v (.one (.lptr (e_Reading (a1.Read.getD (v8.getD ((Int.tmod (w64 ((w64 (x19 + ((v8.length : Nat) : Int))) + (([(-1), 1] : List Int).getD x28.toNat 0))) ((v8.length : Nat) : Int)).toNat) default).toNat default)))), [], [], [42, 54], []⟩, ⟨true, .v (.one (.lptr (e_Reading (a1.Read.getD (v8.getD ((Int.tmod (w64 ((w64 (x19 + ((v8.length : Nat) : Int))) + (([(-1), 1] : List Int).getD x28.toNat 0))) ((v8.length : Nat) : Int)).toNat) default).toNat default)))), [], [], [55], []⟩, ⟨true, .v (.agg [.val (.int .i64 (((a1.Read.getD (v8.getD ((Int.tmod (w64 ((w64 (x19 + ((v8.length : Nat) : Int))) + (([(-1), 1] : List Int).getD x28.toNat 0))) ((v8.length : Nat) : Int)).toNat) default).toNat default).P).X)), .val (.int .i64 (((a1.Read.getD (v8.getD ((Int.tmod (w64 ((w64 (x19 + ((v8.length : Nat) : Int))) + (([(-1), 1] : List Int).getD x28.toNat 0))) ((v8.length : Nat) : Int)).toNat) default).toNat default).P).Y))]), [], [], [56], []⟩, ⟨true, .v (.one (.bptr 6 0 0)), [(6, 0)], [(6, (0, .box 38 [.val (.int .i64 0), .val (.int .i64 0)]))], [], []⟩, ⟨true, .undef, [], [(6, (0, .box 38 [.val (.int .i64 (((a1.Read.getD (v8.getD ((Int.tmod (w64 ((w64 (x19 + ((v8.length : Nat) : Int))) + (([(-1), 1] : List Int).getD x28.toNat 0))) ((v8.length : Nat) : Int)).toNat) default).toNat default).P).X)), .val (.int .i64 (((a1.Read.getD (v8.getD ((Int.tmod (w64 ((w64 (x19 + ((v8.length : Nat) : Int))) + (([(-1), 1] : List Int).getD x28.toNat 0))) ((v8.length : Nat) : Int)).toNat) default).toNat default).P).Y))]))], [12, 57], [6]⟩] [0, 1, 0, 0, 0, 16, 56, 0, 248, 0, 512, 2040, 4092, 8188, 16383, 32767, 65535, 0, 262143] (by kernel_rfl) (by kernel_rfl) (by kernel_rfl) (by kernel_rfl) (by kernel_rfl) (by kernel_rfl) ?_ ?_
        · refine A_pure (.v (.one (.bptr 1 0 1))) [2] [] (True) (by kernel_rfl) trivial ?_
          refine A_pure (.v (.one (tl e_Reading default a1.Read))) [41] [1] (True) (by kernel_rfl) trivial ?_
          refine A_pure (.v (.one (.own 5 0 1 v8.length))) [6] [] (True) (by kernel_rfl) trivial ?_
          refine A_pure (.v (.one (.val (.int .i64 x19)))) [7] [] (True) (by kernel_rfl) trivial ?_
          refine A_pure (.v (.one (.own 5 0 1 v8.length))) [6] [] (True) (by kernel_rfl) trivial ?_
          refine A_pure (.v (.one (.val (.int .i64 ((v8.length : Nat) : Int))))) [45] [] (True) (by kernel_rfl) trivial ?_
          refine A_pure (.v (.one (.val (.int .i64 (w64 (x19 + ((v8.length : Nat) : Int))))))) [44, 46] [] (True) (by kernel_rfl) trivial ?_
          refine A_pure (.v (.one (.val (.int .i64 (([(-1), 1] : List Int).getD x28.toNat 0))))) [11] [] (True) (by kernel_rfl) trivial ?_
          refine A_pure (.v (.one (.val (.int .i64 (w64 ((w64 (x19 + ((v8.length : Nat) : Int))) + (([(-1), 1] : List Int).getD x28.toNat 0))))))) [47, 48] [] (True) (by kernel_rfl) trivial ?_
          refine A_pure (.v (.one (.own 5 0 1 v8.length))) [6] [] (True) (by kernel_rfl) trivial ?_
          refine A_pure (.v (.one (.val (.int .i64 ((v8.length : Nat) : Int))))) [50] [] (True) (by kernel_rfl) trivial ?_
          refine A_pure (.v (.one (.val (.int .i64 (Int.tmod (w64 ((w64 (x19 + ((v8.length : Nat) : Int))) + (([(-1), 1] : List Int).getD x28.toNat 0))) ((v8.length : Nat) : Int)))))) [49, 51] [] (((v8.length : Nat) : Int) ≠ (0 : Int)) (by kernel_rfl) (nz_of g33) ?_
          refine A_pure (.v (.one (.rptr 5 0 1 ((Int.tmod (w64 ((w64 (x19 + ((v8.length : Nat) : Int))) + (([(-1), 1] : List Int).getD x28.toNat 0))) ((v8.length : Nat) : Int)).toNat) 0))) [43, 52] [] (0 ≤ (Int.tmod (w64 ((w64 (x19 + ((v8.length : Nat) : Int))) + (([(-1), 1] : List Int).getD x28.toNat 0))) ((v8.length : Nat) : Int)) ∧ (Int.tmod (w64 ((w64 (x19 + ((v8.length : Nat) : Int))) + (([(-1), 1] : List Int).getD x28.toNat 0))) ((v8.length : Nat) : Int)) < ((v8.length : Nat) : Int)) (by kernel_rfl) (inb_of g34) ?_
          refine A_pure (.v (.one (.val (.int .i64 (v8.getD ((Int.tmod (w64 ((w64 (x19 + ((v8.length : Nat) : Int))) + (([(-1), 1] : List Int).getD x28.toNat 0))) ((v8.length : Nat) : Int)).toNat) default))))) [53] [5] (((Int.tmod (w64 ((w64 (x19 + ((v8.length : Nat) : Int))) + (([(-1), 1] : List Int).getD x28.toNat 0))) ((v8.length : Nat) : Int)).toNat) < v8.length) (by kernel_rfl) (toNat_lt (inb_of g34)) ?_
          refine A_pure (.v (.one (.lptr (e_Reading (a1.Read.getD (v8.getD ((Int.tmod (w64 ((w64 (x19 + ((v8.length : Nat) : Int))) + (([(-1), 1] : List Int).getD x28.toNat 0))) ((v8.length : Nat) : Int)).toNat) default).toNat default))))) [42, 54] [] (0 ≤ (v8.getD ((Int.tmod (w64 ((w64 (x19 + ((v8.length : Nat) : Int))) + (([(-1), 1] : List Int).getD x28.toNat 0))) ((v8.length : Nat) : Int)).toNat) default) ∧ (v8.getD ((Int.tmod (w64 ((w64 (x19 + ((v8.length : Nat) : Int))) + (([(-1), 1] : List Int).getD x28.toNat 0))) ((v8.length : Nat) : Int)).toNat) default) < ((a1.Read.length : Nat) : Int)) (by kernel_rfl) (inb_of g35) ?_
          refine A_pure (.v (.one (.lptr (e_Reading (a1.Read.getD (v8.getD ((Int.tmod (w64 ((w64 (x19 + ((v8.length : Nat) : Int))) + (([(-1), 1] : List Int).getD x28.toNat 0))) ((v8.length : Nat) : Int)).toNat) default).toNat default))))) [55] [] (True) (by kernel_rfl) trivial ?_
          refine A_pure (.v (.agg [.val (.int .i64 (((a1.Read.getD (v8.getD ((Int.tmod (w64 ((w64 (x19 + ((v8.length : Nat) : Int))) + (([(-1), 1] : List Int).getD x28.toNat 0))) ((v8.length : Nat) : Int)).toNat) default).toNat default).P).X)), .val (.int .i64 (((a1.Read.getD (v8.getD ((Int.tmod (w64 ((w64 (x19 + ((v8.length : Nat) : Int))) + (([(-1), 1] : List Int).getD x28.toNat 0))) ((v8.length : Nat) : Int)).toNat) default).toNat default).P).Y))])) [56] [] (True) (by kernel_rfl) trivial ?_
          refine A_run ⟨true, .v (.one (.bptr 6 0 0)), [(6, 0)], [(6, (0, .box 38 [.val (.int .i64 0), .val (.int .i64 0)]))], [], []⟩ (by kernel_rfl) (Step_alloc 38 6 0 [.val (.int .i64 0), .val (.int .i64 0)] (by kernel_rfl) (by kernel_rfl) (by kernel_rfl)) ?_
          refine A_run ⟨true, .undef, [], [(6, (0, .box 38 [.val (.int .i64 (((a1.Read.getD (v8.getD ((Int.tmod (w64 ((w64 (x19 + ((v8.length : Nat) : Int))) + (([(-1), 1] : List Int).getD x28.toNat 0))) ((v8.length : Nat) : Int)).toNat) default).toNat default).P).X)), .val (.int .i64 (((a1.Read.getD (v8.getD ((Int.tmod (w64 ((w64 (x19 + ((v8.length : Nat) : Int))) + (([(-1), 1] : List Int).getD x28.toNat 0))) ((v8.length : Nat) : Int)).toNat) default).toNat default).P).Y))]))], [12, 57], [6]⟩ (by kernel_rfl) (Step_store_box 38 (.tmp 12) (.tmp 57) 6 0 0 38 [.val (.int .i64 0), .val (.int .i64 0)] (.agg [.val (.int .i64 (((a1.Read.getD (v8.getD ((Int.tmod (w64 ((w64 (x19 + ((v8.length : Nat) : Int))) + (([(-1), 1] : List Int).getD x28.toNat 0))) ((v8.length : Nat) : Int)).toNat) default).toNat default).P).X)), .val (.int .i64 (((a1.Read.getD (v8.getD ((Int.tmod (w64 ((w64 (x19 + ((v8.length : Nat) : Int))) + (([(-1), 1] : List Int).getD x28.toNat 0))) ((v8.length : Nat) : Int)).toNat) default).toNat default).P).Y))]) [.val (.int .i64 (((a1.Read.getD (v8.getD ((Int.tmod (w64 ((w64 (x19 + ((v8.length : Nat) : Int))) + (([(-1), 1] : List Int).getD x28.toNat 0))) ((v8.length : Nat) : Int)).toNat) default).toNat default).P).X)), .val (.int .i64 (((a1.Read.getD (v8.getD ((Int.tmod (w64 ((w64 (x19 + ((v8.length : Nat) : Int))) + (([(-1), 1] : List Int).getD x28.toNat 0))) ((v8.length : Nat) : Int)).toNat) default).toNat default).P).Y))] (by kernel_rfl) (by kernel_rfl) (by kernel_rfl) (by kernel_rfl) (by kernel_rfl) (by kernel_rfl) (by kernel_rfl) (by kernel_rfl)) ?_
          exact A_end
        · rcases Bool.eq_false_or_eq_true x27 with b36 | b36
          · replace hm := bif_t b36 hm
            obtain ⟨g37, hm⟩ := bif_n hm
            obtain ⟨v38, h39, hm⟩ := bind_s hm
            refine R_draw 13 (rg Tryd.f17 [1, 1, 1, 1, 0, 1, 0, 0, 1, 1, 0, 0, 1, 1, 0, 1, 0, 0, 1, 1, 0, 0, 1, 1]) (by kernel_rfl) [⟨true, .v (.one (.val (.bool x27))), [], [], [9], []⟩, ⟨true, boolV true, [], [], [58], []⟩, ⟨true, .v (.one (.bptr 1 0 1)), [], [], [2, 59], []⟩, ⟨true, .v (.one (tl e_Reading default a1.Read)), [], [], [59, 60], [1]⟩, ⟨true, .v (.one (.val (.int .i64 (v8.getD x19.toNat default)))), [], [], [8, 59], []⟩, ⟨true, .v (.one (.lptr (e_Reading (a1.Read.getD (v8.getD x19.toNat default).toNat default)))), [], [], [59, 61, 62], []⟩, ⟨true, .v (.one (.lptr (e_Reading (a1.Read.getD (v8.getD x19.toNat default).toNat default)))), [], [], [59, 63], []⟩, ⟨true, .v (.agg [.val (.int .i64 (((a1.Read.getD (v8.getD x19.toNat default).toNat default).P).X)), .val (.int .i64 (((a1.Read.getD (v8.getD x19.toNat default).toNat default).P).Y))]), [], [], [59, 64], []⟩, ⟨true, .v (.agg [.val (.int .i64 (((a1.Read.getD (v8.getD ((Int.tmod (w64 ((w64 (x19 + ((v8.length : Nat) : Int))) + (([(-1), 1] : List Int).getD x28.toNat 0))) ((v8.length : Nat) : Int)).toNat) default).toNat default).P).X)), .val (.int .i64 (((a1.Read.getD (v8.getD ((Int.tmod (w64 ((w64 (x19 + ((v8.length : Nat) : Int))) + (([(-1), 1] : List Int).getD x28.toNat 0))) ((v8.length : Nat) : Int)).toNat) default).toNat default).P).Y))]), [], [], [12, 59], [6]⟩, ⟨true, .v (.one (.val (.int .i64 a2))), [], [], [1, 59], []⟩, ⟨true, (ring_far_x v38).sh 7, obNv 7 (ring_far_o v38), obSh 7 (ring_far_o v38), [59, 65, 66, 67], []⟩, ⟨true, .v (.one (.val (.bool v38))), [], [], [59, 68], []⟩, ⟨true, .v (.one (.val (.bool v38))), [], [], [69], []⟩] [0, 1, 3, 7, 3, 31, 63, 127, 3, 3, 1023, 2047, 4095] (by kernel_rfl) (by kernel_rfl) (by kernel_rfl) (by kernel_rfl) (by kernel_rfl) (by kernel_rfl) ?_ ?_
            · refine A_pure (.v (.one (.val (.bool x27)))) [9] [] (True) (by kernel_rfl) trivial ?_
              refine A_pureE (boolV true) (boolV x27) (congrArg boolV b36) [58] [] (True) (by kernel_rfl) trivial ?_
              refine A_pure (.v (.one (.bptr 1 0 1))) [2, 59] [] (True) (by kernel_rfl) trivial ?_
              refine A_pure (.v (.one (tl e_Reading default a1.Read))) [59, 60] [1] (True) (by kernel_rfl) trivial ?_
              refine A_pure (.v (.one (.val (.int .i64 (v8.getD x19.toNat default))))) [8, 59] [] (True) (by kernel_rfl) trivial ?_
              refine A_pure (.v (.one (.lptr (e_Reading (a1.Read.getD (v8.getD x19.toNat default).toNat default))))) [59, 61, 62] [] (0 ≤ (v8.getD x19.toNat default) ∧ (v8.getD x19.toNat default) < ((a1.Read.length : Nat) : Int)) (by kernel_rfl) (inb_of g37) ?_
              refine A_pure (.v (.one (.lptr (e_Reading (a1.Read.getD (v8.getD x19.toNat default).toNat default))))) [59, 63] [] (True) (by kernel_rfl) trivial ?_
              refine A_pure (.v (.agg [.val (.int .i64 (((a1.Read.getD (v8.getD x19.toNat default).toNat default).P).X)), .val (.int .i64 (((a1.Read.getD (v8.getD x19.toNat default).toNat default).P).Y))])) [59, 64] [] (True) (by kernel_rfl) trivial ?_
              refine A_pure (.v (.agg [.val (.int .i64 (((a1.Read.getD (v8.getD ((Int.tmod (w64 ((w64 (x19 + ((v8.length : Nat) : Int))) + (([(-1), 1] : List Int).getD x28.toNat 0))) ((v8.length : Nat) : Int)).toNat) default).toNat default).P).X)), .val (.int .i64 (((a1.Read.getD (v8.getD ((Int.tmod (w64 ((w64 (x19 + ((v8.length : Nat) : Int))) + (([(-1), 1] : List Int).getD x28.toNat 0))) ((v8.length : Nat) : Int)).toNat) default).toNat default).P).Y))])) [12, 59] [6] (True) (by kernel_rfl) trivial ?_
              refine A_pure (.v (.one (.val (.int .i64 a2)))) [1, 59] [] (True) (by kernel_rfl) trivial ?_
              refine A_run ⟨true, (ring_far_x v38).sh 7, obNv 7 (ring_far_o v38), obSh 7 (ring_far_o v38), [59, 65, 66, 67], []⟩ (by kernel_rfl) (Step_call (x := ring_far_x v38) (ob := ring_far_o v38) (f := 31) (args := [(.tmp 65), (.tmp 66), (.tmp 67)]) (fn := Tryd.f31) (ys := [.agg [.val (.int .i64 (((a1.Read.getD (v8.getD x19.toNat default).toNat default).P).X)), .val (.int .i64 (((a1.Read.getD (v8.getD x19.toNat default).toNat default).P).Y))], .agg [.val (.int .i64 (((a1.Read.getD (v8.getD ((Int.tmod (w64 ((w64 (x19 + ((v8.length : Nat) : Int))) + (([(-1), 1] : List Int).getD x28.toNat 0))) ((v8.length : Nat) : Int)).toNat) default).toNat default).P).X)), .val (.int .i64 (((a1.Read.getD (v8.getD ((Int.tmod (w64 ((w64 (x19 + ((v8.length : Nat) : Int))) + (([(-1), 1] : List Int).getD x28.toNat 0))) ((v8.length : Nat) : Int)).toNat) default).toNat default).P).Y))], .one (.val (.int .i64 a2))]) 7 (by kernel_rfl) (by kernel_rfl) (by kernel_rfl) (by kernel_rfl) (by kernel_rfl) (by kernel_rfl) rfl (ring_far_ok ((a1.Read.getD (v8.getD x19.toNat default).toNat default).P) ((a1.Read.getD (v8.getD ((Int.tmod (w64 ((w64 (x19 + ((v8.length : Nat) : Int))) + (([(-1), 1] : List Int).getD x28.toNat 0))) ((v8.length : Nat) : Int)).toNat) default).toNat default).P) a2 v38 h39) (by kernel_rfl) (by kernel_rfl)) ?_
              refine A_pure (.v (.one (.val (.bool v38)))) [59, 68] [] (True) (by kernel_rfl) trivial ?_
              refine A_pure (.v (.one (.val (.bool v38)))) [69] [] (True) (by kernel_rfl) trivial ?_
              exact A_end
            · exact J_mk (v38) hm (by kernel_rfl) (by kernel_rfl)
          · replace hm := bif_f b36 hm
            refine R_draw 13 (rg Tryd.f17 [1, 1, 1, 1, 0, 1, 0, 0, 1, 1, 0, 0, 1, 1, 0, 1, 0, 0, 1, 1, 0, 0, 1, 1]) (by kernel_rfl) [⟨true, .v (.one (.val (.bool x27))), [], [], [9], []⟩, ⟨true, boolV false, [], [], [58], []⟩, ⟨false, .undef, [], [], [59], []⟩, ⟨false, .undef, [], [], [59], []⟩, ⟨false, .undef, [], [], [59], []⟩, ⟨false, .undef, [], [], [59], []⟩, ⟨false, .undef, [], [], [59], []⟩, ⟨false, .undef, [], [], [59], []⟩, ⟨false, .undef, [], [], [59], []⟩, ⟨false, .undef, [], [], [59], []⟩, ⟨false, .undef, [], [], [59], []⟩, ⟨true, .v (.one (.val (.bool false))), [], [], [59, 68], []⟩, ⟨true, .v (.one (.val (.bool false))), [], [], [69], []⟩] [0, 1, 3, 7, 3, 31, 63, 127, 3, 3, 1023, 2047, 4095] (by kernel_rfl) (by kernel_rfl) (by kernel_rfl) (by kernel_rfl) (by kernel_rfl) (by kernel_rfl) ?_ ?_
            · refine A_pure (.v (.one (.val (.bool x27)))) [9] [] (True) (by kernel_rfl) trivial ?_
              refine A_pureE (boolV false) (boolV x27) (congrArg boolV b36) [58] [] (True) (by kernel_rfl) trivial ?_
              refine A_skip [59] (by kernel_rfl) ?_
              refine A_skip [59] (by kernel_rfl) ?_
              refine A_skip [59] (by kernel_rfl) ?_
              refine A_skip [59] (by kernel_rfl) ?_
              refine A_skip [59] (by kernel_rfl) ?_
              refine A_skip [59] (by kernel_rfl) ?_
              refine A_skip [59] (by kernel_rfl) ?_
              refine A_skip [59] (by kernel_rfl) ?_
              refine A_skip [59] (by kernel_rfl) ?_
              refine A_pure (.v (.one (.val (.bool false)))) [59, 68] [] (True) (by kernel_rfl) trivial ?_
              refine A_pure (.v (.one (.val (.bool false)))) [69] [] (True) (by kernel_rfl) trivial ?_
              exact A_end
            · exact J_mk (false) hm (by kernel_rfl) (by kernel_rfl)
    · replace hm := bif_f b30 hm
      refine R_exit 2 (by kernel_rfl) ?_
      obtain rfl := Option.some.inj hm
      exact L0_mk (by kernel_rfl) (by kernel_rfl)

set_option maxRecDepth 100000 in
theorem ring_Clean_L2_ok (w : World) (A : Nat → Prop) (hg : Globs globs w A) (a1 : Ring) (a2 : Int) (v5 : Ring) (v8 : (List Int)) : ∀ (n : Nat) (x19 : Int) (l20 : List Reading) (l20n : Nat) (res : (List Reading)), l20.length = l20n → ring_Clean_L2 a1 a2 v8 n x19 l20 = some res → HL ({ P := Tryd.prog, w0 := w, nt := 79, A := A, globs := globs, mixed := mixed, glob := hg } : Ctx) (nd Tryd.f17 [1, 1, 1, 1, 0, 1, 0, 0]) (loopQ0 0 (fun o => ring_Clean_L2_T v5 o) res) n (ring_Clean_L2_S a1 a2 v5 v8 x19 l20 l20n) := by
  intro n
  induction n with
  | zero =>
    intro x19 l20 l20n res hl0 hm
    cases hm
  | succ n ih =>
    intro x19 l20 l20n res hl0 hm
    subst hl0
    refine HL_succ ?_
    refine R_seq (nd Tryd.f17 [1, 1, 1, 1, 0, 1, 0, 0, 0]) (nd Tryd.f17 [1, 1, 1, 1, 0, 1, 0, 0, 1]) (by kernel_rfl) ?_
    refine R_region 6 (rg Tryd.f17 [1, 1, 1, 1, 0, 1, 0, 0, 0]) (by kernel_rfl) ?_
    have k21 : opsOk 79 (rg Tryd.f17 [1, 1, 1, 1, 0, 1, 0, 0, 0]) = true := by kernel_rfl
    refine P_op k21 (.v (.one (.val (.bool (decide (x19 < ((v8.length : Nat) : Int))))))) (by kernel_rfl) ?_
    refine HOps_end (by kernel_rfl) ?_
    refine R_seq (nd Tryd.f17 [1, 1, 1, 1, 0, 1, 0, 0, 1, 0]) (nd Tryd.f17 [1, 1, 1, 1, 0, 1, 0, 0, 1, 1]) (by kernel_rfl) ?_
    refine R_cond (.tmp 33) (nd Tryd.f17 [1, 1, 1, 1, 0, 1, 0, 0, 1, 0, 0]) (nd Tryd.f17 [1, 1, 1, 1, 0, 1, 0, 0, 1, 0, 1]) (by kernel_rfl) (decide (x19 < ((v8.length : Nat) : Int))) (by kernel_rfl) (fun b22 => ?_) (fun b22 => ?_)
    · replace hm := bif_t b22 hm
      refine R_skip (by kernel_rfl) ?_
      refine R_join (ι := (List Reading) × Nat) (nd Tryd.f17 [1, 1, 1, 1, 0, 1, 0, 0, 1, 1, 0]) (nd Tryd.f17 [1, 1, 1, 1, 0, 1, 0, 0, 1, 1, 1]) (by kernel_rfl) (fun p => ring_Clean_k5_S a1 a2 v5 v8 x19 p.1 p.2) (fun p => p.1.length = p.2 ∧ ring_Clean_k5 x19 (ring_Clean_L2 a1 a2 v8 n) p.1 = some res) ?_ ?_
      · rintro ⟨l49, l49n⟩ ⟨el49, hm⟩
        replace el49 : l49.length = l49n := el49
        subst el49
        show H _ (ring_Clean_k5_S a1 a2 v5 v8 x19 l49 l49.length) (nd Tryd.f17 [1, 1, 1, 1, 0, 1, 0, 0, 1, 1, 1]) _
        refine R_region 17 (rg Tryd.f17 [1, 1, 1, 1, 0, 1, 0, 0, 1, 1, 1]) (by kernel_rfl) ?_
        have k50 : opsOk 79 (rg Tryd.f17 [1, 1, 1, 1, 0, 1, 0, 0, 1, 1, 1]) = true := by kernel_rfl
        refine P_op k50 (.v (.one (.val (.int .i64 (w64 (x19 + 1)))))) (by kernel_rfl) ?_
        refine P_op k50 (.v (.one (.val (.int .i64 (w64 (x19 + 1)))))) (by kernel_rfl) ?_
        refine HOps_end (by kernel_rfl) ?_
        exact HL_enter (ring_Clean_L2_S a1 a2 v5 v8 (w64 (x19 + 1)) l49 l49.length) (by kernel_rfl) (by kernel_rfl) (ih (w64 (x19 + 1)) l49 l49.length _ rfl hm)
      · refine R_block 1 (nd Tryd.f17 [1, 1, 1, 1, 0, 1, 0, 0, 1, 1, 0, 0]) (by kernel_rfl) ?_
        refine R_seq (nd Tryd.f17 [1, 1, 1, 1, 0, 1, 0, 0, 1, 1, 0, 0, 0]) (nd Tryd.f17 [1, 1, 1, 1, 0, 1, 0, 0, 1, 1, 0, 0, 1]) (by kernel_rfl) ?_
        refine R_region 7 (rg Tryd.f17 [1, 1, 1, 1, 0, 1, 0, 0, 1, 1, 0, 0, 0]) (by kernel_rfl) ?_
        have k23 : opsOk 79 (rg Tryd.f17 [1, 1, 1, 1, 0, 1, 0, 0, 1, 1, 0, 0, 0]) = true := by kernel_rfl
        refine P_op k23 (.v (.one (.val (.int .i64 x19)))) (by kernel_rfl) ?_
        obtain ⟨g24, hm⟩ := bif_n hm
        refine P_opc k23 (.v (.one (.rptr 5 0 1 x19.toNat 0))) (0 ≤ x19 ∧ x19 < ((v8.length : Nat) : Int)) (by kernel_rfl) (inb_of g24) ?_
        refine P_opc k23 (.v (.one (.val (.int .i64 (v8.getD x19.toNat default))))) (x19.toNat < v8.length) (by kernel_rfl) (toNat_lt (inb_of g24)) ?_
        refine P_op k23 (.v (.one (.val (.int .i64 x19)))) (by kernel_rfl) ?_
        refine P_op k23 (.v (.one (.val (.int .i64 (v8.getD x19.toNat default))))) (by kernel_rfl) ?_
        refine HOps_end (by kernel_rfl) ?_
        refine R_seq (nd Tryd.f17 [1, 1, 1, 1, 0, 1, 0, 0, 1, 1, 0, 0, 1, 0]) (nd Tryd.f17 [1, 1, 1, 1, 0, 1, 0, 0, 1, 1, 0, 0, 1, 1]) (by kernel_rfl) ?_
        refine R_region 8 (rg Tryd.f17 [1, 1, 1, 1, 0, 1, 0, 0, 1, 1, 0, 0, 1, 0]) (by kernel_rfl) ?_
        have k25 : opsOk 79 (rg Tryd.f17 [1, 1, 1, 1, 0, 1, 0, 0, 1, 1, 0, 0, 1, 0]) = true := by kernel_rfl
        refine P_op k25 (.v (.one (.val (.bool true)))) (by kernel_rfl) ?_
        refine HOps_end (by kernel_rfl) ?_
        refine R_seq (nd Tryd.f17 [1, 1, 1, 1, 0, 1, 0, 0, 1, 1, 0, 0, 1, 1, 0]) (nd Tryd.f17 [1, 1, 1, 1, 0, 1, 0, 0, 1, 1, 0, 0, 1, 1, 1]) (by kernel_rfl) ?_
        refine R_seq (nd Tryd.f17 [1, 1, 1, 1, 0, 1, 0, 0, 1, 1, 0, 0, 1, 1, 0, 0]) (nd Tryd.f17 [1, 1, 1, 1, 0, 1, 0, 0, 1, 1, 0, 0, 1, 1, 0, 1]) (by kernel_rfl) ?_
        refine R_region 9 (rg Tryd.f17 [1, 1, 1, 1, 0, 1, 0, 0, 1, 1, 0, 0, 1, 1, 0, 0]) (by kernel_rfl) ?_
        have k26 : opsOk 79 (rg Tryd.f17 [1, 1, 1, 1, 0, 1, 0, 0, 1, 1, 0, 0, 1, 1, 0, 0]) = true := by kernel_rfl
        refine P_op k26 (.v (.agg [.val (.int .i64 (-1)), .val (.int .i64 1)])) (by kernel_rfl) ?_
        refine P_op k26 (.v (.one (.val (.int .i64 0)))) (by kernel_rfl) ?_
        refine HOps_end (by kernel_rfl) ?_
        obtain ⟨o43, h44, hm⟩ := bind_s hm
        refine R_loop0 (nd Tryd.f17 [1, 1, 1, 1, 0, 1, 0, 0, 1, 1, 0, 0, 1, 1, 0, 1, 0, 0]) 2 (by kernel_rfl) FUEL (fun o => ring_Clean_L3_T a1 a2 v5 v8 x19 l20 o) o43 (HL_enter (ring_Clean_L3_S a1 a2 v5 v8 x19 l20 true 0) (by kernel_rfl) (by kernel_rfl) (ring_Clean_L3_ok w A hg a1 a2 v5 v8 x19 l20 FUEL true 0 o43 h44)) ?_
        refine R_seq (nd Tryd.f17 [1, 1, 1, 1, 0, 1, 0, 0, 1, 1, 0, 0, 1, 1, 1, 0]) (nd Tryd.f17 [1, 1, 1, 1, 0, 1, 0, 0, 1, 1, 0, 0, 1, 1, 1, 1]) (by kernel_rfl) ?_
        refine R_region 15 (rg Tryd.f17 [1, 1, 1, 1, 0, 1, 0, 0, 1, 1, 0, 0, 1, 1, 1, 0]) (by kernel_rfl) ?_
        have k45 : opsOk 79 (rg Tryd.f17 [1, 1, 1, 1, 0, 1, 0, 0, 1, 1, 0, 0, 1, 1, 1, 0]) = true := by kernel_rfl
        refine P_op k45 (.v (.one (.val (.bool o43)))) (by kernel_rfl) ?_
        refine HOps_end (by kernel_rfl) ?_
        refine R_cond (.tmp 71) (nd Tryd.f17 [1, 1, 1, 1, 0, 1, 0, 0, 1, 1, 0, 0, 1, 1, 1, 1, 0]) (nd Tryd.f17 [1, 1, 1, 1, 0, 1, 0, 0, 1, 1, 0, 0, 1, 1, 1, 1, 1]) (by kernel_rfl) o43 (by kernel_rfl) (fun b46 => ?_) (fun b46 => ?_)
        · replace hm := bif_t b46 hm
          refine R_region 16 (rg Tryd.f17 [1, 1, 1, 1, 0, 1, 0, 0, 1, 1, 0, 0, 1, 1, 1, 1, 0]) (by kernel_rfl) ?_
          have k47 : opsOk 79 (rg Tryd.f17 [1, 1, 1, 1, 0, 1, 0, 0, 1, 1, 0, 0, 1, 1, 1, 1, 0]) = true := by kernel_rfl
          refine P_op k47 (.v (.one (.bptr 4 0 1))) (by kernel_rfl) ?_
          refine P_op k47 (.v (.one (.own 3 0 3 l20.length))) (by kernel_rfl) ?_
          refine P_op k47 (.v (.one (.val (.int .i64 (v8.getD x19.toNat default))))) (by kernel_rfl) ?_
          refine P_op k47 (.v (.agg [.val (.int .i64 0), .val (.int .i64 0), .val (.bool false)])) (by kernel_rfl) ?_
          obtain ⟨g48, hm⟩ := bif_n hm
          refine P_opc k47 (.v (.one (.rptr 3 0 3 ((v8.getD x19.toNat default).toNat) 0))) (0 ≤ (v8.getD x19.toNat default) ∧ (v8.getD x19.toNat default) < ((l20.length : Nat) : Int)) (by kernel_rfl) (inb_of g48) ?_
          refine P_write k47 ([(3, (0, .row 44 3 l20.length (rowf e_Reading default (l20.set ((v8.getD x19.toNat default).toNat) (Reading.mk (Point.mk 0 0) false)))))]) (.undef) (by kernel_rfl) (Step_store_row 44 (.tmp 76) (.tmp 75) 3 0 3 ((v8.getD x19.toNat default).toNat) 0 44 l20.length (rowf e_Reading default l20) (rowf e_Reading default (l20.set ((v8.getD x19.toNat default).toNat) (Reading.mk (Point.mk 0 0) false))) (.agg [.val (.int .i64 0), .val (.int .i64 0), .val (.bool false)]) (by kernel_rfl) (by kernel_rfl) (by kernel_rfl) (by kernel_rfl) (by kernel_rfl) (by kernel_rfl) (by kernel_rfl) (by kernel_rfl) (toNat_lt (inb_of g48)) (rowf_set e_Reading default (Reading.mk (Point.mk 0 0) false) l20 l20.length ((v8.getD x19.toNat default).toNat) 0 [.val (.int .i64 0), .val (.int .i64 0), .val (.bool false)] rfl (by kernel_rfl))) ?_
          refine HOps_end (by kernel_rfl) ?_
          exact J_mk ((l20.set ((v8.getD x19.toNat default).toNat) (Reading.mk (Point.mk 0 0) false)), l20.length) ⟨(len_set rfl), hm⟩ (by kernel_rfl) (by kernel_rfl)
        · replace hm := bif_f b46 hm
          refine R_skip (by kernel_rfl) ?_
          exact J_mk (l20, l20.length) ⟨rfl, hm⟩ (by kernel_rfl) (by kernel_rfl)
    · replace hm := bif_f b22 hm
      refine R_exit 0 (by kernel_rfl) ?_
      obtain rfl := Option.some.inj hm
      exact L0_mk (by kernel_rfl) (by kernel_rfl)

set_option maxRecDepth 100000 in
theorem ring_Clean_ok (a1 : Ring) (a2 : Int) (r : Ring) (hm : ring_Clean a1 a2 = some r) : Ct Tryd.prog globs 17 [.agg [.val (.int .i64 a1.Z), tl e_Reading default a1.Read], .one (.val (.int .i64 a2))] (ring_Clean_x r) (ring_Clean_o r) := by
  unfold ring_Clean at hm
  refine Ct_of_H (fn := Tryd.f17) (c := nd Tryd.f17 []) mixed (by kernel_rfl) (by kernel_rfl) (by kernel_rfl) fun w A hg => ?_
  show H ({ P := Tryd.prog, w0 := w, nt := 79, A := A, globs := globs, mixed := mixed, glob := hg } : Ctx) _ _ _
  refine R_seq (nd Tryd.f17 [0]) (nd Tryd.f17 [1]) (by kernel_rfl) ?_
  refine R_region 0 (rg Tryd.f17 [0]) (by kernel_rfl) ?_
  have k3 : opsOk 79 (rg Tryd.f17 [0]) = true := by kernel_rfl
  refine P_step k3 ([(1, 0)]) ([(1, (0, .box 24 [.val (.int .i64 a1.Z), tl e_Reading default a1.Read]))]) (.v (.one (.bptr 1 0 0))) (by kernel_rfl) (Step_box 24 (.tmp 0) 1 0 (.agg [.val (.int .i64 a1.Z), tl e_Reading default a1.Read]) (by kernel_rfl) (by kernel_rfl) (by kernel_rfl)) ?_
  refine P_step k3 ([(2, 0)]) ([(2, (0, .box 24 [.val (.int .i64 0), .emp]))]) (.v (.one (.bptr 2 0 0))) (by kernel_rfl) (Step_alloc 24 2 0 [.val (.int .i64 0), .emp] (by kernel_rfl) (by kernel_rfl) (by kernel_rfl)) ?_
  refine HOps_end (by kernel_rfl) ?_
  refine R_seq (nd Tryd.f17 [1, 0]) (nd Tryd.f17 [1, 1]) (by kernel_rfl) ?_
  refine R_region 1 (rg Tryd.f17 [1, 0]) (by kernel_rfl) ?_
  have k4 : opsOk 79 (rg Tryd.f17 [1, 0]) = true := by kernel_rfl
  refine P_op k4 (.v (.agg [.val (.int .i64 a1.Z), tl e_Reading default a1.Read])) (by kernel_rfl) ?_
  obtain ⟨v5, h6, hm⟩ := bind_s hm
  refine P_step k4 (obNv 3 (ring_clone_o v5)) (obSh 3 (ring_clone_o v5)) ((ring_clone_x v5).sh 3) (by kernel_rfl) (Step_call (x := ring_clone_x v5) (ob := ring_clone_o v5) (f := 30) (args := [(.tmp 13)]) (fn := Tryd.f30) (ys := [.agg [.val (.int .i64 a1.Z), tl e_Reading default a1.Read]]) 3 (by kernel_rfl) (by kernel_rfl) (by kernel_rfl) (by kernel_rfl) (by kernel_rfl) (by kernel_rfl) rfl (ring_clone_ok a1 v5 h6) (by kernel_rfl) (by kernel_rfl)) ?_
  refine P_step k4 ([(4, 0)]) ([(4, (0, .box 24 [.val (.int .i64 0), .emp]))]) (.v (.one (.bptr 4 0 0))) (by kernel_rfl) (Step_alloc 24 4 0 [.val (.int .i64 0), .emp] (by kernel_rfl) (by kernel_rfl) (by kernel_rfl)) ?_
  refine P_write k4 ([(4, (0, .box 24 [.val (.int .i64 v5.Z), .own 3 0 3 v5.Read.length]))]) (.undef) (by kernel_rfl) (Step_store_box 24 (.tmp 5) (.tmp 14) 4 0 0 24 [.val (.int .i64 0), .emp] (.agg [.val (.int .i64 v5.Z), .own 3 0 3 v5.Read.length]) [.val (.int .i64 v5.Z), .own 3 0 3 v5.Read.length] (by kernel_rfl) (by kernel_rfl) (by kernel_rfl) (by kernel_rfl) (by kernel_rfl) (by kernel_rfl) (by kernel_rfl) (by kernel_rfl)) ?_
  refine HOps_end (by kernel_rfl) ?_
  refine R_seq (nd Tryd.f17 [1, 1, 0]) (nd Tryd.f17 [1, 1, 1]) (by kernel_rfl) ?_
  refine R_region 2 (rg Tryd.f17 [1, 1, 0]) (by kernel_rfl) ?_
  have k7 : opsOk 79 (rg Tryd.f17 [1, 1, 0]) = true := by kernel_rfl
  refine P_op k7 (.v (.agg [.val (.int .i64 a1.Z), tl e_Reading default a1.Read])) (by kernel_rfl) ?_
  obtain ⟨v8, h9, hm⟩ := bind_s hm
  refine P_step k7 (obNv 5 (ring_measured_o v8)) (obSh 5 (ring_measured_o v8)) ((ring_measured_x v8).sh 5) (by kernel_rfl) (Step_call (x := ring_measured_x v8) (ob := ring_measured_o v8) (f := 26) (args := [(.tmp 15)]) (fn := Tryd.f26) (ys := [.agg [.val (.int .i64 a1.Z), tl e_Reading default a1.Read]]) 5 (by kernel_rfl) (by kernel_rfl) (by kernel_rfl) (by kernel_rfl) (by kernel_rfl) (by kernel_rfl) rfl (ring_measured_ok a1 v8 h9) (by kernel_rfl) (by kernel_rfl)) ?_
  refine P_op k7 (.v (.one (.own 5 0 1 v8.length))) (by kernel_rfl) ?_
  refine HOps_end (by kernel_rfl) ?_
  refine R_seq (nd Tryd.f17 [1, 1, 1, 0]) (nd Tryd.f17 [1, 1, 1, 1]) (by kernel_rfl) ?_
  refine R_join (ι := Bool) (nd Tryd.f17 [1, 1, 1, 0, 0]) (nd Tryd.f17 [1, 1, 1, 0, 1]) (by kernel_rfl) (fun p => ring_Clean_k1_S a1 a2 v5 v8 p) (fun p => ring_Clean_k1 a1 a2 v5 v8 p = some r) ?_ ?_
  · rintro x15 hm
    show H _ (ring_Clean_k1_S a1 a2 v5 v8 x15) (nd Tryd.f17 [1, 1, 1, 0, 1]) _
    refine R_cond (.tmp 28) (nd Tryd.f17 [1, 1, 1, 0, 1, 0]) (nd Tryd.f17 [1, 1, 1, 0, 1, 1]) (by kernel_rfl) x15 (by kernel_rfl) (fun b16 => ?_) (fun b16 => ?_)
    · replace hm := bif_t b16 hm
      refine R_seq (nd Tryd.f17 [1, 1, 1, 0, 1, 0, 0]) (nd Tryd.f17 [1, 1, 1, 0, 1, 0, 1]) (by kernel_rfl) ?_
      refine R_region 4 (rg Tryd.f17 [1, 1, 1, 0, 1, 0, 0]) (by kernel_rfl) ?_
      have k17 : opsOk 79 (rg Tryd.f17 [1, 1, 1, 0, 1, 0, 0]) = true := by kernel_rfl
      refine P_op k17 (.v (.agg [.val (.int .i64 v5.Z), .own 3 0 3 v5.Read.length])) (by kernel_rfl) ?_
      refine P_write k17 ([(2, (0, .box 24 [.val (.int .i64 v5.Z), .own 3 0 3 v5.Read.length]))]) (.undef) (by kernel_rfl) (Step_store_box 24 (.tmp 4) (.tmp 29) 2 0 0 24 [.val (.int .i64 0), .emp] (.agg [.val (.int .i64 v5.Z), .own 3 0 3 v5.Read.length]) [.val (.int .i64 v5.Z), .own 3 0 3 v5.Read.length] (by kernel_rfl) (by kernel_rfl) (by kernel_rfl) (by kernel_rfl) (by kernel_rfl) (by kernel_rfl) (by kernel_rfl) (by kernel_rfl)) ?_
      refine HOps_end (by kernel_rfl) ?_
      obtain rfl := Option.some.inj hm
      refine H_swap 3 0 ?_
      refine R_ret (by kernel_rfl) ?_
      exact ret_mk (by kernel_rfl) (by kernel_rfl)
    · replace hm := bif_f b16 hm
      refine R_skip (by kernel_rfl) ?_
      refine R_seq (nd Tryd.f17 [1, 1, 1, 1, 0]) (nd Tryd.f17 [1, 1, 1, 1, 1]) (by kernel_rfl) ?_
      refine R_seq (nd Tryd.f17 [1, 1, 1, 1, 0, 0]) (nd Tryd.f17 [1, 1, 1, 1, 0, 1]) (by kernel_rfl) ?_
      refine R_region 5 (rg Tryd.f17 [1, 1, 1, 1, 0, 0]) (by kernel_rfl) ?_
      have k18 : opsOk 79 (rg Tryd.f17 [1, 1, 1, 1, 0, 0]) = true := by kernel_rfl
      refine P_op k18 (.v (.one (.own 5 0 1 v8.length))) (by kernel_rfl) ?_
      refine P_op k18 (.v (.one (.val (.int .i64 ((v8.length : Nat) : Int))))) (by kernel_rfl) ?_
      refine P_op k18 (.v (.one (.val (.int .i64 0)))) (by kernel_rfl) ?_
      refine HOps_end (by kernel_rfl) ?_
      obtain ⟨o52, h53, hm⟩ := bind_s hm
      refine R_loop0 (nd Tryd.f17 [1, 1, 1, 1, 0, 1, 0, 0]) 0 (by kernel_rfl) FUEL (fun o => ring_Clean_L2_T v5 o) o52 (HL_enter (ring_Clean_L2_S a1 a2 v5 v8 0 v5.Read v5.Read.length) (by kernel_rfl) (by kernel_rfl) (ring_Clean_L2_ok w A hg a1 a2 v5 v8 FUEL 0 v5.Read v5.Read.length o52 rfl h53)) ?_
      refine R_seq (nd Tryd.f17 [1, 1, 1, 1, 1, 0]) (nd Tryd.f17 [1, 1, 1, 1, 1, 1]) (by kernel_rfl) ?_
      refine R_region 18 (rg Tryd.f17 [1, 1, 1, 1, 1, 0]) (by kernel_rfl) ?_
      have k54 : opsOk 79 (rg Tryd.f17 [1, 1, 1, 1, 1, 0]) = true := by kernel_rfl
      refine P_op k54 (.v (.agg [.val (.int .i64 v5.Z), .own 3 0 3 o52.length])) (by kernel_rfl) ?_
      refine P_write k54 ([(2, (0, .box 24 [.val (.int .i64 v5.Z), .own 3 0 3 o52.length]))]) (.undef) (by kernel_rfl) (Step_store_box 24 (.tmp 4) (.tmp 78) 2 0 0 24 [.val (.int .i64 0), .emp] (.agg [.val (.int .i64 v5.Z), .own 3 0 3 o52.length]) [.val (.int .i64 v5.Z), .own 3 0 3 o52.length] (by kernel_rfl) (by kernel_rfl) (by kernel_rfl) (by kernel_rfl) (by kernel_rfl) (by kernel_rfl) (by kernel_rfl) (by kernel_rfl)) ?_
      refine HOps_end (by kernel_rfl) ?_
      obtain rfl := Option.some.inj hm
      refine H_swap 3 0 ?_
      refine R_ret (by kernel_rfl) ?_
      exact ret_mk (by kernel_rfl) (by kernel_rfl)
  · refine R_region 3 (rg Tryd.f17 [1, 1, 1, 0, 0]) (by kernel_rfl) ?_
    have k10 : opsOk 79 (rg Tryd.f17 [1, 1, 1, 0, 0]) = true := by kernel_rfl
    refine P_op k10 (.v (.one (.val (.int .i64 a2)))) (by kernel_rfl) ?_
    refine P_op k10 (.v (.one (.val (.bool (decide (a2 < 0)))))) (by kernel_rfl) ?_
    refine P_op k10 (.v (.one (.val (.bool (decide (a2 < 0)))))) (by kernel_rfl) ?_
    refine HOps_bool 19 (decide (a2 < 0)) (by kernel_rfl) (fun b11 => ?_) (fun b11 => ?_)
    · replace hm := bif_t b11 hm
      refine P_skip k10 (by kernel_rfl) ?_
      refine P_skip k10 (by kernel_rfl) ?_
      refine P_skip k10 (by kernel_rfl) ?_
      refine P_op k10 (.v (.one (.val (.bool true)))) (by kernel_rfl) ?_
      refine P_op k10 (.v (.one (.val (.bool true)))) (by kernel_rfl) ?_
      refine P_skip k10 (by kernel_rfl) ?_
      refine P_skip k10 (by kernel_rfl) ?_
      refine P_skip k10 (by kernel_rfl) ?_
      refine P_op k10 (.v (.one (.val (.bool true)))) (by kernel_rfl) ?_
      refine HOps_end (by kernel_rfl) ?_
      exact J_mk (true) hm (by kernel_rfl) (by kernel_rfl)
    · replace hm := bif_f b11 hm
      refine P_op k10 (.v (.one (.own 5 0 1 v8.length))) (by kernel_rfl) ?_
      refine P_op k10 (.v (.one (.val (.int .i64 ((v8.length : Nat) : Int))))) (by kernel_rfl) ?_
      refine P_op k10 (.v (.one (.val (.bool (decide (((v8.length : Nat) : Int) < 2)))))) (by kernel_rfl) ?_
      refine P_op k10 (.v (.one (.val (.bool (decide (((v8.length : Nat) : Int) < 2)))))) (by kernel_rfl) ?_
      refine P_op k10 (.v (.one (.val (.bool (decide (((v8.length : Nat) : Int) < 2)))))) (by kernel_rfl) ?_
      refine HOps_bool 24 (decide (((v8.length : Nat) : Int) < 2)) (by kernel_rfl) (fun b12 => ?_) (fun b12 => ?_)
      · replace hm := bif_t b12 hm
        refine P_skip k10 (by kernel_rfl) ?_
        refine P_skip k10 (by kernel_rfl) ?_
        refine P_skip k10 (by kernel_rfl) ?_
        refine P_op k10 (.v (.one (.val (.bool true)))) (by kernel_rfl) ?_
        refine HOps_end (by kernel_rfl) ?_
        exact J_mk (true) hm (by kernel_rfl) (by kernel_rfl)
      · replace hm := bif_f b12 hm
        refine P_op k10 (.v (.agg [.val (.int .i64 a1.Z), tl e_Reading default a1.Read])) (by kernel_rfl) ?_
        obtain ⟨v13, h14, hm⟩ := bind_s hm
        refine P_step k10 (obNv 6 (ring_Check_o v13)) (obSh 6 (ring_Check_o v13)) ((ring_Check_x v13).sh 6) (by kernel_rfl) (Step_call (x := ring_Check_x v13) (ob := ring_Check_o v13) (f := 14) (args := [(.tmp 25)]) (fn := Tryd.f14) (ys := [.agg [.val (.int .i64 a1.Z), tl e_Reading default a1.Read]]) 6 (by kernel_rfl) (by kernel_rfl) (by kernel_rfl) (by kernel_rfl) (by kernel_rfl) (by kernel_rfl) rfl (ring_Check_ok a1 v13 h14) (by kernel_rfl) (by kernel_rfl)) ?_
        refine P_op k10 (.v (.one (.val (.bool (v13 != 0))))) (by kernel_rfl) ?_
        refine P_op k10 (.v (.one (.val (.bool (v13 != 0))))) (by kernel_rfl) ?_
        refine HOps_end (by kernel_rfl) ?_
        exact J_mk (v13 != 0) hm (by kernel_rfl) (by kernel_rfl)

end Saw
end Go.SL
