import Derived.Test.YtfpgdgmcmkileaaDoorRBase
import Derived.Test.YtfpgdgmcmkileaaDoorRB2
import Derived.Test.YtfpgdgmcmkileaaDoorRB1
import Derived.Test.YtfpgdgmcmkileaaDoorRB3
import Derived.Test.YtfpgdgmcmkileaaDoorRB4
set_option linter.unusedVariables false
set_option linter.unusedSimpArgs false
namespace Go.SL
namespace Saw
open Go.Proofs
set_option maxHeartbeats 4000000

def ref12_apart_x (r : Bool) : V := .v (.one (.val (.bool r)))

def ref12_apart_o (r : Bool) : List (Nat × (Nat × O)) := []

theorem ref12_apart_f (r : Bool) : Frozen (ref12_apart_o r) := by
  intro i k o h
  unfold ref12_apart_o at h
  cases h

def ref12_apart_k1_S (x9 : Bool) : St :=
  { slots := [(6, .v (.one (.val (.bool x9))))], objs := [] }

set_option maxRecDepth 100000 in
theorem ref12_apart_ok (a1 : Point) (a2 : Point) (a3 : Int) (r : Bool) (hm : ref12_apart a1 a2 a3 = some r) : Ct Tryd.prog globs 34 [.agg [.val (.int .i64 a1.X), .val (.int .i64 a1.Y)], .agg [.val (.int .i64 a2.X), .val (.int .i64 a2.Y)], .one (.val (.int .i64 a3))] (ref12_apart_x r) (ref12_apart_o r) := by
  unfold ref12_apart at hm
  refine Ct_of_H (fn := Tryd.f34) (c := nd Tryd.f34 []) mixed (by kernel_rfl) (by kernel_rfl) (by kernel_rfl) fun w A hg => ?_
  show H ({ P := Tryd.prog, w0 := w, nt := 41, A := A, globs := globs, mixed := mixed, glob := hg } : Ctx) _ _ _
  refine R_seq (nd Tryd.f34 [0]) (nd Tryd.f34 [1]) (by kernel_rfl) ?_
  refine R_region 0 (rg Tryd.f34 [0]) (by kernel_rfl) ?_
  have k4 : opsOk 41 (rg Tryd.f34 [0]) = true := by kernel_rfl
  refine P_step k4 ([(1, 0)]) ([(1, (0, .box 38 [.val (.int .i64 a1.X), .val (.int .i64 a1.Y)]))]) (.v (.one (.bptr 1 0 0))) (by kernel_rfl) (Step_box 38 (.tmp 0) 1 0 (.agg [.val (.int .i64 a1.X), .val (.int .i64 a1.Y)]) (by kernel_rfl) (by kernel_rfl) (by kernel_rfl)) ?_
  refine P_step k4 ([(2, 0)]) ([(2, (0, .box 38 [.val (.int .i64 a2.X), .val (.int .i64 a2.Y)]))]) (.v (.one (.bptr 2 0 0))) (by kernel_rfl) (Step_box 38 (.tmp 1) 2 0 (.agg [.val (.int .i64 a2.X), .val (.int .i64 a2.Y)]) (by kernel_rfl) (by kernel_rfl) (by kernel_rfl)) ?_
  refine P_op k4 (.v (.one (.val (.bool false)))) (by kernel_rfl) ?_
  refine HOps_end (by kernel_rfl) ?_
  refine R_join (ι := Bool) (nd Tryd.f34 [1, 0]) (nd Tryd.f34 [1, 1]) (by kernel_rfl) (fun p => ref12_apart_k1_S p) (fun p => ref12_apart_k1 p = some r) ?_ ?_
  · rintro x9 hm
    show H _ (ref12_apart_k1_S x9) (nd Tryd.f34 [1, 1]) _
    obtain rfl := Option.some.inj hm
    refine R_ret (by kernel_rfl) ?_
    exact ret_mk (by kernel_rfl) (by kernel_rfl)
  · refine R_region 1 (rg Tryd.f34 [1, 0]) (by kernel_rfl) ?_
    have k5 : opsOk 41 (rg Tryd.f34 [1, 0]) = true := by kernel_rfl
    refine P_op k5 (.v (.one (.bptr 1 0 0))) (by kernel_rfl) ?_
    refine P_op k5 (.v (.one (.val (.int .i64 a1.X)))) (by kernel_rfl) ?_
    refine P_op k5 (.v (.one (.bptr 2 0 0))) (by kernel_rfl) ?_
    refine P_op k5 (.v (.one (.val (.int .i64 a2.X)))) (by kernel_rfl) ?_
    refine P_op k5 (.v (.one (.val (.int .i64 (w64 (a1.X - a2.X)))))) (by kernel_rfl) ?_
    refine P_op k5 (.v (.one (.val (.int .i64 a3)))) (by kernel_rfl) ?_
    refine P_op k5 (.v (.one (.val (.bool (decide ((w64 (a1.X - a2.X)) > a3)))))) (by kernel_rfl) ?_
    refine P_op k5 (.v (.one (.val (.bool (decide ((w64 (a1.X - a2.X)) > a3)))))) (by kernel_rfl) ?_
    refine HOps_bool 14 (decide ((w64 (a1.X - a2.X)) > a3)) (by kernel_rfl) (fun b6 => ?_) (fun b6 => ?_)
    · replace hm := bif_t b6 hm
      refine P_skip k5 (by kernel_rfl) ?_
      refine P_skip k5 (by kernel_rfl) ?_
      refine P_skip k5 (by kernel_rfl) ?_
      refine P_skip k5 (by kernel_rfl) ?_
      refine P_skip k5 (by kernel_rfl) ?_
      refine P_skip k5 (by kernel_rfl) ?_
      refine P_skip k5 (by kernel_rfl) ?_
      refine P_op k5 (.v (.one (.val (.bool true)))) (by kernel_rfl) ?_
      refine P_op k5 (.v (.one (.val (.bool true)))) (by kernel_rfl) ?_
      refine P_skip k5 (by kernel_rfl) ?_
      refine P_skip k5 (by kernel_rfl) ?_
      refine P_skip k5 (by kernel_rfl) ?_
      refine P_skip k5 (by kernel_rfl) ?_
      refine P_skip k5 (by kernel_rfl) ?_
      refine P_skip k5 (by kernel_rfl) ?_
      refine P_skip k5 (by kernel_rfl) ?_
      refine P_op k5 (.v (.one (.val (.bool true)))) (by kernel_rfl) ?_
      refine P_op k5 (.v (.one (.val (.bool true)))) (by kernel_rfl) ?_
      refine P_skip k5 (by kernel_rfl) ?_
      refine P_skip k5 (by kernel_rfl) ?_
      refine P_skip k5 (by kernel_rfl) ?_
      refine P_skip k5 (by kernel_rfl) ?_
      refine P_skip k5 (by kernel_rfl) ?_
      refine P_skip k5 (by kernel_rfl) ?_
      refine P_skip k5 (by kernel_rfl) ?_
      refine P_op k5 (.v (.one (.val (.bool true)))) (by kernel_rfl) ?_
      refine P_op k5 (.v (.one (.val (.bool true)))) (by kernel_rfl) ?_
      refine HOps_end (by kernel_rfl) ?_
      exact J_mk (true) hm (by kernel_rfl) (by kernel_rfl)
    · replace hm := bif_f b6 hm
      refine P_op k5 (.v (.one (.bptr 2 0 0))) (by kernel_rfl) ?_
      refine P_op k5 (.v (.one (.val (.int .i64 a2.X)))) (by kernel_rfl) ?_
      refine P_op k5 (.v (.one (.bptr 1 0 0))) (by kernel_rfl) ?_
      refine P_op k5 (.v (.one (.val (.int .i64 a1.X)))) (by kernel_rfl) ?_
      refine P_op k5 (.v (.one (.val (.int .i64 (w64 (a2.X - a1.X)))))) (by kernel_rfl) ?_
      refine P_op k5 (.v (.one (.val (.int .i64 a3)))) (by kernel_rfl) ?_
      refine P_op k5 (.v (.one (.val (.bool (decide ((w64 (a2.X - a1.X)) > a3)))))) (by kernel_rfl) ?_
      refine P_op k5 (.v (.one (.val (.bool (decide ((w64 (a2.X - a1.X)) > a3)))))) (by kernel_rfl) ?_
      refine P_op k5 (.v (.one (.val (.bool (decide ((w64 (a2.X - a1.X)) > a3)))))) (by kernel_rfl) ?_
      refine HOps_bool 23 (decide ((w64 (a2.X - a1.X)) > a3)) (by kernel_rfl) (fun b7 => ?_) (fun b7 => ?_)
      · replace hm := bif_t b7 hm
        refine P_skip k5 (by kernel_rfl) ?_
        refine P_skip k5 (by kernel_rfl) ?_
        refine P_skip k5 (by kernel_rfl) ?_
        refine P_skip k5 (by kernel_rfl) ?_
        refine P_skip k5 (by kernel_rfl) ?_
        refine P_skip k5 (by kernel_rfl) ?_
        refine P_skip k5 (by kernel_rfl) ?_
        refine P_op k5 (.v (.one (.val (.bool true)))) (by kernel_rfl) ?_
        refine P_op k5 (.v (.one (.val (.bool true)))) (by kernel_rfl) ?_
        refine P_skip k5 (by kernel_rfl) ?_
        refine P_skip k5 (by kernel_rfl) ?_
        refine P_skip k5 (by kernel_rfl) ?_
        refine P_skip k5 (by kernel_rfl) ?_
        refine P_skip k5 (by kernel_rfl) ?_
        refine P_skip k5 (by kernel_rfl) ?_
        refine P_skip k5 (by kernel_rfl) ?_
        refine P_op k5 (.v (.one (.val (.bool true)))) (by kernel_rfl) ?_
        refine P_op k5 (.v (.one (.val (.bool true)))) (by kernel_rfl) ?_
        refine HOps_end (by kernel_rfl) ?_
        exact J_mk (true) hm (by kernel_rfl) (by kernel_rfl)
      · replace hm := bif_f b7 hm
        refine P_op k5 (.v (.one (.bptr 1 0 1))) (by kernel_rfl) ?_
        refine P_op k5 (.v (.one (.val (.int .i64 a1.Y)))) (by kernel_rfl) ?_
        refine P_op k5 (.v (.one (.bptr 2 0 1))) (by kernel_rfl) ?_
        refine P_op k5 (.v (.one (.val (.int .i64 a2.Y)))) (by kernel_rfl) ?_
        refine P_op k5 (.v (.one (.val (.int .i64 (w64 (a1.Y - a2.Y)))))) (by kernel_rfl) ?_
        refine P_op k5 (.v (.one (.val (.int .i64 a3)))) (by kernel_rfl) ?_
        refine P_op k5 (.v (.one (.val (.bool (decide ((w64 (a1.Y - a2.Y)) > a3)))))) (by kernel_rfl) ?_
        refine P_op k5 (.v (.one (.val (.bool (decide ((w64 (a1.Y - a2.Y)) > a3)))))) (by kernel_rfl) ?_
        refine P_op k5 (.v (.one (.val (.bool (decide ((w64 (a1.Y - a2.Y)) > a3)))))) (by kernel_rfl) ?_
        refine HOps_bool 32 (decide ((w64 (a1.Y - a2.Y)) > a3)) (by kernel_rfl) (fun b8 => ?_) (fun b8 => ?_)
        · replace hm := bif_t b8 hm
          refine P_skip k5 (by kernel_rfl) ?_
          refine P_skip k5 (by kernel_rfl) ?_
          refine P_skip k5 (by kernel_rfl) ?_
          refine P_skip k5 (by kernel_rfl) ?_
          refine P_skip k5 (by kernel_rfl) ?_
          refine P_skip k5 (by kernel_rfl) ?_
          refine P_skip k5 (by kernel_rfl) ?_
          refine P_op k5 (.v (.one (.val (.bool true)))) (by kernel_rfl) ?_
          refine P_op k5 (.v (.one (.val (.bool true)))) (by kernel_rfl) ?_
          refine HOps_end (by kernel_rfl) ?_
          exact J_mk (true) hm (by kernel_rfl) (by kernel_rfl)
        · replace hm := bif_f b8 hm
          refine P_op k5 (.v (.one (.bptr 2 0 1))) (by kernel_rfl) ?_
          refine P_op k5 (.v (.one (.val (.int .i64 a2.Y)))) (by kernel_rfl) ?_
          refine P_op k5 (.v (.one (.bptr 1 0 1))) (by kernel_rfl) ?_
          refine P_op k5 (.v (.one (.val (.int .i64 a1.Y)))) (by kernel_rfl) ?_
          refine P_op k5 (.v (.one (.val (.int .i64 (w64 (a2.Y - a1.Y)))))) (by kernel_rfl) ?_
          refine P_op k5 (.v (.one (.val (.int .i64 a3)))) (by kernel_rfl) ?_
          refine P_op k5 (.v (.one (.val (.bool (decide ((w64 (a2.Y - a1.Y)) > a3)))))) (by kernel_rfl) ?_
          refine P_op k5 (.v (.one (.val (.bool (decide ((w64 (a2.Y - a1.Y)) > a3)))))) (by kernel_rfl) ?_
          refine P_op k5 (.v (.one (.val (.bool (decide ((w64 (a2.Y - a1.Y)) > a3)))))) (by kernel_rfl) ?_
          refine HOps_end (by kernel_rfl) ?_
          exact J_mk (decide ((w64 (a2.Y - a1.Y)) > a3)) hm (by kernel_rfl) (by kernel_rfl)

end Saw
end Go.SL

namespace Go.SL
namespace Saw
open Go.Proofs
set_option maxHeartbeats 4000000

def ref12_Clean_x (r : Ring) : V := .v (.agg [.val (.int .i64 r.Z), .own 0 0 3 r.Read.length])

def ref12_Clean_o (r : Ring) : List (Nat × (Nat × O)) := [(0, (0, .row 44 3 r.Read.length (rowf e_Reading default r.Read)))]

theorem ref12_Clean_f (r : Ring) : Frozen (ref12_Clean_o r) := by
  intro i k o h
  unfold ref12_Clean_o at h
  rw [look_cons] at h
  split at h
  · cases h; exact fun _ _ => rfl
  · cases h

def ref12_Clean_k4_S (a1 : Ring) (a2 : Int) (v8 : Ring) (x19 : Int) (l41 : List Reading) (l41n : Nat) : St :=
  { slots := [(1, .v (.one (.val (.int .i64 a2)))), (2, .v (.one (.bptr 1 0 0))), (4, .v (.one (.bptr 2 0 0))), (7, .v (.one (.bptr 4 0 0))), (8, .v (.one (.val (.int .i64 x19))))], objs := [(1, (0, .box 24 [.val (.int .i64 a1.Z), tl e_Reading default a1.Read])), (2, (0, .box 24 [.val (.int .i64 0), .emp])), (3, (0, .row 44 3 l41n (rowf e_Reading default l41))), (4, (0, .box 24 [.val (.int .i64 v8.Z), .own 3 0 3 l41n]))] }

def ref12_Clean_k3_S (a1 : Ring) (a2 : Int) (v8 : Ring) (x19 : Int) (l20 : List Reading) (x37 : Bool) : St :=
  { slots := [(1, .v (.one (.val (.int .i64 a2)))), (2, .v (.one (.bptr 1 0 0))), (4, .v (.one (.bptr 2 0 0))), (7, .v (.one (.bptr 4 0 0))), (8, .v (.one (.val (.int .i64 x19)))), (85, .v (.one (.val (.bool x37))))], objs := [(1, (0, .box 24 [.val (.int .i64 a1.Z), tl e_Reading default a1.Read])), (2, (0, .box 24 [.val (.int .i64 0), .emp])), (3, (0, .row 44 3 l20.length (rowf e_Reading default l20))), (4, (0, .box 24 [.val (.int .i64 v8.Z), .own 3 0 3 l20.length]))] }

def ref12_Clean_L2_S (a1 : Ring) (a2 : Int) (v8 : Ring) (x19 : Int) (l20 : List Reading) (l20n : Nat) : St :=
  { slots := [(1, .v (.one (.val (.int .i64 a2)))), (2, .v (.one (.bptr 1 0 0))), (4, .v (.one (.bptr 2 0 0))), (7, .v (.one (.bptr 4 0 0))), (8, .v (.one (.val (.int .i64 x19))))], objs := [(1, (0, .box 24 [.val (.int .i64 a1.Z), tl e_Reading default a1.Read])), (2, (0, .box 24 [.val (.int .i64 0), .emp])), (3, (0, .row 44 3 l20n (rowf e_Reading default l20))), (4, (0, .box 24 [.val (.int .i64 v8.Z), .own 3 0 3 l20n]))] }

def ref12_Clean_L2_T (v8 : Ring) (l43 : List Reading) : St :=
  { slots := [(4, .v (.one (.bptr 2 0 0))), (7, .v (.one (.bptr 4 0 0)))], objs := [(2, (0, .box 24 [.val (.int .i64 0), .emp])), (3, (0, .row 44 3 l43.length (rowf e_Reading default l43))), (4, (0, .box 24 [.val (.int .i64 v8.Z), .own 3 0 3 l43.length]))] }

def ref12_Clean_k1_S (a1 : Ring) (a2 : Int) (v8 : Ring) (x15 : Bool) : St :=
  { slots := [(1, .v (.one (.val (.int .i64 a2)))), (2, .v (.one (.bptr 1 0 0))), (4, .v (.one (.bptr 2 0 0))), (7, .v (.one (.bptr 4 0 0))), (32, .v (.one (.val (.bool x15))))], objs := [(1, (0, .box 24 [.val (.int .i64 a1.Z), tl e_Reading default a1.Read])), (2, (0, .box 24 [.val (.int .i64 0), .emp])), (3, (0, .row 44 3 v8.Read.length (rowf e_Reading default v8.Read))), (4, (0, .box 24 [.val (.int .i64 v8.Z), .own 3 0 3 v8.Read.length]))] }

set_option maxRecDepth 100000 in
theorem ref12_Clean_L2_ok (w : World) (A : Nat → Prop) (hg : Globs globs w A) (a1 : Ring) (a2 : Int) (v8 : Ring) : ∀ (n : Nat) (x19 : Int) (l20 : List Reading) (l20n : Nat) (res : (List Reading)), l20.length = l20n → ref12_Clean_L2 a1 a2 n x19 l20 = some res → HL ({ P := Tryd.prog, w0 := w, nt := 92, A := A, globs := globs, mixed := mixed, glob := hg } : Ctx) (nd Tryd.f18 [1, 1, 1, 1, 0, 1, 0, 0]) (loopQ0 0 (fun o => ref12_Clean_L2_T v8 o) res) n (ref12_Clean_L2_S a1 a2 v8 x19 l20 l20n) := by
  intro n
  induction n with
  | zero =>
    intro x19 l20 l20n res hl0 hm
    cases hm
  | succ n ih =>
    intro x19 l20 l20n res hl0 hm
    subst hl0
    refine HL_succ ?_
    refine R_seq (nd Tryd.f18 [1, 1, 1, 1, 0, 1, 0, 0, 0]) (nd Tryd.f18 [1, 1, 1, 1, 0, 1, 0, 0, 1]) (by kernel_rfl) ?_
    refine R_seq (nd Tryd.f18 [1, 1, 1, 1, 0, 1, 0, 0, 0, 0]) (nd Tryd.f18 [1, 1, 1, 1, 0, 1, 0, 0, 0, 1]) (by kernel_rfl) ?_
    refine R_region 6 (rg Tryd.f18 [1, 1, 1, 1, 0, 1, 0, 0, 0, 0]) (by kernel_rfl) ?_
    have k21 : opsOk 92 (rg Tryd.f18 [1, 1, 1, 1, 0, 1, 0, 0, 0, 0]) = true := by kernel_rfl
    refine P_op k21 (.v (.one (.val (.int .i64 x19)))) (by kernel_rfl) ?_
    refine P_op k21 (.v (.one (.bptr 1 0 1))) (by kernel_rfl) ?_
    refine P_op k21 (.v (.one (tl e_Reading default a1.Read))) (by kernel_rfl) ?_
    refine P_op k21 (.v (.one (.val (.int .i64 ((a1.Read.length : Nat) : Int))))) (by kernel_rfl) ?_
    refine P_op k21 (.v (.one (.val (.bool (decide (x19 < ((a1.Read.length : Nat) : Int))))))) (by kernel_rfl) ?_
    refine HOps_end (by kernel_rfl) ?_
    refine R_cond (.tmp 38) (nd Tryd.f18 [1, 1, 1, 1, 0, 1, 0, 0, 0, 1, 0]) (nd Tryd.f18 [1, 1, 1, 1, 0, 1, 0, 0, 0, 1, 1]) (by kernel_rfl) (decide (x19 < ((a1.Read.length : Nat) : Int))) (by kernel_rfl) (fun b22 => ?_) (fun b22 => ?_)
    · replace hm := bif_t b22 hm
      refine R_skip (by kernel_rfl) ?_
      refine R_join (ι := (List Reading) × Nat) (nd Tryd.f18 [1, 1, 1, 1, 0, 1, 0, 0, 1, 0]) (nd Tryd.f18 [1, 1, 1, 1, 0, 1, 0, 0, 1, 1]) (by kernel_rfl) (fun p => ref12_Clean_k4_S a1 a2 v8 x19 p.1 p.2) (fun p => p.1.length = p.2 ∧ ref12_Clean_k4 x19 (ref12_Clean_L2 a1 a2 n) p.1 = some res) ?_ ?_
      · rintro ⟨l41, l41n⟩ ⟨el41, hm⟩
        replace el41 : l41.length = l41n := el41
        subst el41
        show H _ (ref12_Clean_k4_S a1 a2 v8 x19 l41 l41.length) (nd Tryd.f18 [1, 1, 1, 1, 0, 1, 0, 0, 1, 1]) _
        refine R_region 7 (rg Tryd.f18 [1, 1, 1, 1, 0, 1, 0, 0, 1, 1]) (by kernel_rfl) ?_
        have k42 : opsOk 92 (rg Tryd.f18 [1, 1, 1, 1, 0, 1, 0, 0, 1, 1]) = true := by kernel_rfl
        refine P_op k42 (.v (.one (.val (.int .i64 x19)))) (by kernel_rfl) ?_
        refine P_op k42 (.v (.one (.val (.int .i64 (w64 (x19 + 1)))))) (by kernel_rfl) ?_
        refine P_op k42 (.v (.one (.val (.int .i64 (w64 (x19 + 1)))))) (by kernel_rfl) ?_
        refine HOps_end (by kernel_rfl) ?_
        exact HL_enter (ref12_Clean_L2_S a1 a2 v8 (w64 (x19 + 1)) l41 l41.length) (by kernel_rfl) (by kernel_rfl) (ih (w64 (x19 + 1)) l41 l41.length _ rfl hm)
      · refine R_block 1 (nd Tryd.f18 [1, 1, 1, 1, 0, 1, 0, 0, 1, 0, 0]) (by kernel_rfl) ?_
        refine R_seq (nd Tryd.f18 [1, 1, 1, 1, 0, 1, 0, 0, 1, 0, 0, 0]) (nd Tryd.f18 [1, 1, 1, 1, 0, 1, 0, 0, 1, 0, 0, 1]) (by kernel_rfl) ?_
        refine R_seq (nd Tryd.f18 [1, 1, 1, 1, 0, 1, 0, 0, 1, 0, 0, 0, 0]) (nd Tryd.f18 [1, 1, 1, 1, 0, 1, 0, 0, 1, 0, 0, 0, 1]) (by kernel_rfl) ?_
        refine R_region 8 (rg Tryd.f18 [1, 1, 1, 1, 0, 1, 0, 0, 1, 0, 0, 0, 0]) (by kernel_rfl) ?_
        have k23 : opsOk 92 (rg Tryd.f18 [1, 1, 1, 1, 0, 1, 0, 0, 1, 0, 0, 0, 0]) = true := by kernel_rfl
        refine P_op k23 (.v (.one (.bptr 1 0 1))) (by kernel_rfl) ?_
        refine P_op k23 (.v (.one (tl e_Reading default a1.Read))) (by kernel_rfl) ?_
        refine P_op k23 (.v (.one (.val (.int .i64 x19)))) (by kernel_rfl) ?_
        obtain ⟨g24, hm⟩ := bif_n hm
        refine P_opc k23 (.v (.one (.lptr (e_Reading (a1.Read.getD x19.toNat default))))) (0 ≤ x19 ∧ x19 < ((a1.Read.length : Nat) : Int)) (by kernel_rfl) (inb_of g24) ?_
        refine P_op k23 (.v (.one (.lptr ((e_Reading (a1.Read.getD x19.toNat default)).drop 2)))) (by kernel_rfl) ?_
        refine P_op k23 (.v (.one (.val (.bool ((a1.Read.getD x19.toNat default).Ok))))) (by kernel_rfl) ?_
        refine P_op k23 (.v (.one (.val (.bool (!((a1.Read.getD x19.toNat default).Ok)))))) (by kernel_rfl) ?_
        refine HOps_end (by kernel_rfl) ?_
        refine R_cond (.tmp 47) (nd Tryd.f18 [1, 1, 1, 1, 0, 1, 0, 0, 1, 0, 0, 0, 1, 0]) (nd Tryd.f18 [1, 1, 1, 1, 0, 1, 0, 0, 1, 0, 0, 0, 1, 1]) (by kernel_rfl) (!((a1.Read.getD x19.toNat default).Ok)) (by kernel_rfl) (fun b25 => ?_) (fun b25 => ?_)
        · replace hm := bif_t b25 hm
          refine R_exit 1 (by kernel_rfl) ?_
          exact J_mk (l20, l20.length) ⟨rfl, hm⟩ (by kernel_rfl) (by kernel_rfl)
        · replace hm := bif_f b25 hm
          refine R_skip (by kernel_rfl) ?_
          refine R_seq (nd Tryd.f18 [1, 1, 1, 1, 0, 1, 0, 0, 1, 0, 0, 1, 0]) (nd Tryd.f18 [1, 1, 1, 1, 0, 1, 0, 0, 1, 0, 0, 1, 1]) (by kernel_rfl) ?_
          obtain ⟨v26, h27, hm⟩ := bind_s hm
          obtain ⟨g28, hm⟩ := bif_n hm
          obtain ⟨v29, h30, hm⟩ := bind_s hm
          obtain ⟨g31, hm⟩ := bif_n hm
          refine R_draw 9 (rg Tryd.f18 [1, 1, 1, 1, 0, 1, 0, 0, 1, 0, 0, 1, 0]) (by kernel_rfl) [⟨true, .v (.one (.bptr 1 0 1)), [], [], [2], []⟩, ⟨true, .v (.one (tl e_Reading default a1.Read)), [], [], [48], [1]⟩, ⟨true, .v (.one (.bptr 1 0 1)), [], [], [2], []⟩, ⟨true, .v (.one (tl e_Reading default a1.Read)), [], [], [50], [1]⟩, ⟨true, .v (.one (.val (.int .i64 x19))), [], [], [8], []⟩, ⟨true, (ref12_next_x v26).sh 5, obNv 5 (ref12_next_o v26), obSh 5 (ref12_next_o v26), [51, 52], []⟩, ⟨true, .v (.one (.lptr (e_Reading (a1.Read.getD v26.toNat default)))), [], [], [49, 53], []⟩, ⟨true, .v (.agg [.val (.int .i64 (((a1.Read.getD v26.toNat default).P).X)), .val (.int .i64 (((a1.Read.getD v26.toNat default).P).Y)), .val (.bool ((a1.Read.getD v26.toNat default).Ok))]), [], [], [54], []⟩, ⟨true, .v (.one (.bptr 1 0 1)), [], [], [2], []⟩, ⟨true, .v (.one (tl e_Reading default a1.Read)), [], [], [56], [1]⟩, ⟨true, .v (.one (.bptr 1 0 1)), [], [], [2], []⟩, ⟨true, .v (.one (tl e_Reading default a1.Read)), [], [], [58], [1]⟩, ⟨true, .v (.one (.val (.int .i64 x19))), [], [], [8], []⟩, ⟨true, (ref12_next_x v29).sh 5, obNv 5 (ref12_next_o v29), obSh 5 (ref12_next_o v29), [59, 60], []⟩, ⟨true, .v (.one (.lptr (e_Reading (a1.Read.getD v29.toNat default)))), [], [], [57, 61], []⟩, ⟨true, .v (.agg [.val (.int .i64 (((a1.Read.getD v29.toNat default).P).X)), .val (.int .i64 (((a1.Read.getD v29.toNat default).P).Y)), .val (.bool ((a1.Read.getD v29.toNat default).Ok))]), [], [], [62], []⟩, ⟨true, .v (.one (.bptr 5 0 0)), [(5, 0)], [(5, (0, .box 44 [.val (.int .i64 0), .val (.int .i64 0), .val (.bool false)]))], [], []⟩, ⟨true, .v (.one (.bptr 6 0 0)), [(6, 0)], [(6, (0, .box 44 [.val (.int .i64 0), .val (.int .i64 0), .val (.bool false)]))], [], []⟩, ⟨true, .undef, [], [(5, (0, .box 44 [.val (.int .i64 (((a1.Read.getD v26.toNat default).P).X)), .val (.int .i64 (((a1.Read.getD v26.toNat default).P).Y)), .val (.bool ((a1.Read.getD v26.toNat default).Ok))]))], [9, 55], [5]⟩, ⟨true, .undef, [], [(6, (0, .box 44 [.val (.int .i64 (((a1.Read.getD v29.toNat default).P).X)), .val (.int .i64 (((a1.Read.getD v29.toNat default).P).Y)), .val (.bool ((a1.Read.getD v29.toNat default).Ok))]))], [10, 63], [6]⟩] [0, 1, 0, 4, 0, 28, 63, 127, 0, 256, 0, 1024, 0, 7228, 16188, 32572, 0, 0, 212223, 524287] (by kernel_rfl) (by kernel_rfl) (by kernel_rfl) (by kernel_rfl) (by kernel_rfl) (by kernel_rfl) ?_ ?_
          · refine A_pure (.v (.one (.bptr 1 0 1))) [2] [] (True) (by kernel_rfl) trivial ?_
            refine A_pure (.v (.one (tl e_Reading default a1.Read))) [48] [1] (True) (by kernel_rfl) trivial ?_
            refine A_pure (.v (.one (.bptr 1 0 1))) [2] [] (True) (by kernel_rfl) trivial ?_
            refine A_pure (.v (.one (tl e_Reading default a1.Read))) [50] [1] (True) (by kernel_rfl) trivial ?_
            refine A_pure (.v (.one (.val (.int .i64 x19)))) [8] [] (True) (by kernel_rfl) trivial ?_
            refine A_run ⟨true, (ref12_next_x v26).sh 5, obNv 5 (ref12_next_o v26), obSh 5 (ref12_next_o v26), [51, 52], []⟩ (by kernel_rfl) (Step_call (x := ref12_next_x v26) (ob := ref12_next_o v26) (f := 33) (args := [(.tmp 51), (.tmp 52), (.const (.int .i64 (-1)))]) (fn := Tryd.f33) (ys := [.one (tl e_Reading default a1.Read), .one (.val (.int .i64 x19)), .one (.val (.int .i64 (-1)))]) 5 (by kernel_rfl) (by kernel_rfl) (by kernel_rfl) (by kernel_rfl) (by kernel_rfl) (by kernel_rfl) rfl (ref12_next_ok a1.Read x19 (-1) v26 h27) (by kernel_rfl) (by kernel_rfl)) ?_
            refine A_pure (.v (.one (.lptr (e_Reading (a1.Read.getD v26.toNat default))))) [49, 53] [] (0 ≤ v26 ∧ v26 < ((a1.Read.length : Nat) : Int)) (by kernel_rfl) (inb_of g28) ?_
            refine A_pure (.v (.agg [.val (.int .i64 (((a1.Read.getD v26.toNat default).P).X)), .val (.int .i64 (((a1.Read.getD v26.toNat default).P).Y)), .val (.bool ((a1.Read.getD v26.toNat default).Ok))])) [54] [] (True) (by kernel_rfl) trivial ?_
            refine A_pure (.v (.one (.bptr 1 0 1))) [2] [] (True) (by kernel_rfl) trivial ?_
            refine A_pure (.v (.one (tl e_Reading default a1.Read))) [56] [1] (True) (by kernel_rfl) trivial ?_
            refine A_pure (.v (.one (.bptr 1 0 1))) [2] [] (True) (by kernel_rfl) trivial ?_
            refine A_pure (.v (.one (tl e_Reading default a1.Read))) [58] [1] (True) (by kernel_rfl) trivial ?_
            refine A_pure (.v (.one (.val (.int .i64 x19)))) [8] [] (True) (by kernel_rfl) trivial ?_
            refine A_run ⟨true, (ref12_next_x v29).sh 5, obNv 5 (ref12_next_o v29), obSh 5 (ref12_next_o v29), [59, 60], []⟩ (by kernel_rfl) (Step_call (x := ref12_next_x v29) (ob := ref12_next_o v29) (f := 33) (args := [(.tmp 59), (.tmp 60), (.const (.int .i64 1))]) (fn := Tryd.f33) (ys := [.one (tl e_Reading default a1.Read), .one (.val (.int .i64 x19)), .one (.val (.int .i64 1))]) 5 (by kernel_rfl) (by kernel_rfl) (by kernel_rfl) (by kernel_rfl) (by kernel_rfl) (by kernel_rfl) rfl (ref12_next_ok a1.Read x19 1 v29 h30) (by kernel_rfl) (by kernel_rfl)) ?_
            refine A_pure (.v (.one (.lptr (e_Reading (a1.Read.getD v29.toNat default))))) [57, 61] [] (0 ≤ v29 ∧ v29 < ((a1.Read.length : Nat) : Int)) (by kernel_rfl) (inb_of g31) ?_
            refine A_pure (.v (.agg [.val (.int .i64 (((a1.Read.getD v29.toNat default).P).X)), .val (.int .i64 (((a1.Read.getD v29.toNat default).P).Y)), .val (.bool ((a1.Read.getD v29.toNat default).Ok))])) [62] [] (True) (by kernel_rfl) trivial ?_
            refine A_run ⟨true, .v (.one (.bptr 5 0 0)), [(5, 0)], [(5, (0, .box 44 [.val (.int .i64 0), .val (.int .i64 0), .val (.bool false)]))], [], []⟩ (by kernel_rfl) (Step_alloc 44 5 0 [.val (.int .i64 0), .val (.int .i64 0), .val (.bool false)] (by kernel_rfl) (by kernel_rfl) (by kernel_rfl)) ?_
            refine A_run ⟨true, .v (.one (.bptr 6 0 0)), [(6, 0)], [(6, (0, .box 44 [.val (.int .i64 0), .val (.int .i64 0), .val (.bool false)]))], [], []⟩ (by kernel_rfl) (Step_alloc 44 6 0 [.val (.int .i64 0), .val (.int .i64 0), .val (.bool false)] (by kernel_rfl) (by kernel_rfl) (by kernel_rfl)) ?_
            refine A_run ⟨true, .undef, [], [(5, (0, .box 44 [.val (.int .i64 (((a1.Read.getD v26.toNat default).P).X)), .val (.int .i64 (((a1.Read.getD v26.toNat default).P).Y)), .val (.bool ((a1.Read.getD v26.toNat default).Ok))]))], [9, 55], [5]⟩ (by kernel_rfl) (Step_store_box 44 (.tmp 9) (.tmp 55) 5 0 0 44 [.val (.int .i64 0), .val (.int .i64 0), .val (.bool false)] (.agg [.val (.int .i64 (((a1.Read.getD v26.toNat default).P).X)), .val (.int .i64 (((a1.Read.getD v26.toNat default).P).Y)), .val (.bool ((a1.Read.getD v26.toNat default).Ok))]) [.val (.int .i64 (((a1.Read.getD v26.toNat default).P).X)), .val (.int .i64 (((a1.Read.getD v26.toNat default).P).Y)), .val (.bool ((a1.Read.getD v26.toNat default).Ok))] (by kernel_rfl) (by kernel_rfl) (by kernel_rfl) (by kernel_rfl) (by kernel_rfl) (by kernel_rfl) (by kernel_rfl) (by kernel_rfl)) ?_
            refine A_run ⟨true, .undef, [], [(6, (0, .box 44 [.val (.int .i64 (((a1.Read.getD v29.toNat default).P).X)), .val (.int .i64 (((a1.Read.getD v29.toNat default).P).Y)), .val (.bool ((a1.Read.getD v29.toNat default).Ok))]))], [10, 63], [6]⟩ (by kernel_rfl) (Step_store_box 44 (.tmp 10) (.tmp 63) 6 0 0 44 [.val (.int .i64 0), .val (.int .i64 0), .val (.bool false)] (.agg [.val (.int .i64 (((a1.Read.getD v29.toNat default).P).X)), .val (.int .i64 (((a1.Read.getD v29.toNat default).P).Y)), .val (.bool ((a1.Read.getD v29.toNat default).Ok))]) [.val (.int .i64 (((a1.Read.getD v29.toNat default).P).X)), .val (.int .i64 (((a1.Read.getD v29.toNat default).P).Y)), .val (.bool ((a1.Read.getD v29.toNat default).Ok))] (by kernel_rfl) (by kernel_rfl) (by kernel_rfl) (by kernel_rfl) (by kernel_rfl) (by kernel_rfl) (by kernel_rfl) (by kernel_rfl)) ?_
            exact A_end
          · refine R_join (ι := Bool) (nd Tryd.f18 [1, 1, 1, 1, 0, 1, 0, 0, 1, 0, 0, 1, 1, 0]) (nd Tryd.f18 [1, 1, 1, 1, 0, 1, 0, 0, 1, 0, 0, 1, 1, 1]) (by kernel_rfl) (fun p => ref12_Clean_k3_S a1 a2 v8 x19 l20 p) (fun p => ref12_Clean_k3 x19 l20 (ref12_Clean_L2 a1 a2 n) p = some res) ?_ ?_
            · rintro x37 hm
              show H _ (ref12_Clean_k3_S a1 a2 v8 x19 l20 x37) (nd Tryd.f18 [1, 1, 1, 1, 0, 1, 0, 0, 1, 0, 0, 1, 1, 1]) _
              refine R_cond (.tmp 85) (nd Tryd.f18 [1, 1, 1, 1, 0, 1, 0, 0, 1, 0, 0, 1, 1, 1, 0]) (nd Tryd.f18 [1, 1, 1, 1, 0, 1, 0, 0, 1, 0, 0, 1, 1, 1, 1]) (by kernel_rfl) x37 (by kernel_rfl) (fun b38 => ?_) (fun b38 => ?_)
              · replace hm := bif_t b38 hm
                refine R_region 11 (rg Tryd.f18 [1, 1, 1, 1, 0, 1, 0, 0, 1, 0, 0, 1, 1, 1, 0]) (by kernel_rfl) ?_
                have k39 : opsOk 92 (rg Tryd.f18 [1, 1, 1, 1, 0, 1, 0, 0, 1, 0, 0, 1, 1, 1, 0]) = true := by kernel_rfl
                refine P_op k39 (.v (.one (.bptr 4 0 1))) (by kernel_rfl) ?_
                refine P_op k39 (.v (.one (.own 3 0 3 l20.length))) (by kernel_rfl) ?_
                refine P_op k39 (.v (.one (.val (.int .i64 x19)))) (by kernel_rfl) ?_
                refine P_op k39 (.v (.agg [.val (.int .i64 0), .val (.int .i64 0), .val (.bool false)])) (by kernel_rfl) ?_
                obtain ⟨g40, hm⟩ := bif_n hm
                refine P_opc k39 (.v (.one (.rptr 3 0 3 x19.toNat 0))) (0 ≤ x19 ∧ x19 < ((l20.length : Nat) : Int)) (by kernel_rfl) (inb_of g40) ?_
                refine P_write k39 ([(3, (0, .row 44 3 l20.length (rowf e_Reading default (l20.set x19.toNat (Reading.mk (Point.mk 0 0) false)))))]) (.undef) (by kernel_rfl) (Step_store_row 44 (.tmp 90) (.tmp 89) 3 0 3 x19.toNat 0 44 l20.length (rowf e_Reading default l20) (rowf e_Reading default (l20.set x19.toNat (Reading.mk (Point.mk 0 0) false))) (.agg [.val (.int .i64 0), .val (.int .i64 0), .val (.bool false)]) (by kernel_rfl) (by kernel_rfl) (by kernel_rfl) (by kernel_rfl) (by kernel_rfl) (by kernel_rfl) (by kernel_rfl) (by kernel_rfl) (toNat_lt (inb_of g40)) (rowf_set e_Reading default (Reading.mk (Point.mk 0 0) false) l20 l20.length x19.toNat 0 [.val (.int .i64 0), .val (.int .i64 0), .val (.bool false)] rfl (by kernel_rfl))) ?_
                refine HOps_end (by kernel_rfl) ?_
                exact J_mk ((l20.set x19.toNat (Reading.mk (Point.mk 0 0) false)), l20.length) ⟨(len_set rfl), hm⟩ (by kernel_rfl) (by kernel_rfl)
              · replace hm := bif_f b38 hm
                refine R_skip (by kernel_rfl) ?_
                exact J_mk (l20, l20.length) ⟨rfl, hm⟩ (by kernel_rfl) (by kernel_rfl)
            · obtain ⟨v32, h33, hm⟩ := bind_s hm
              rcases Bool.eq_false_or_eq_true v32 with b34 | b34
              · replace hm := bif_t b34 hm
                obtain ⟨v35, h36, hm⟩ := bind_s hm
                refine R_draw 10 (rg Tryd.f18 [1, 1, 1, 1, 0, 1, 0, 0, 1, 0, 0, 1, 1, 0]) (by kernel_rfl) [⟨true, .v (.one (.bptr 1 0 1)), [], [], [2], []⟩, ⟨true, .v (.one (tl e_Reading default a1.Read)), [], [], [64], [1]⟩, ⟨true, .v (.one (.val (.int .i64 x19))), [], [], [8], []⟩, ⟨true, .v (.one (.lptr (e_Reading (a1.Read.getD x19.toNat default)))), [], [], [65, 66], []⟩, ⟨true, .v (.one (.lptr (e_Reading (a1.Read.getD x19.toNat default)))), [], [], [67], []⟩, ⟨true, .v (.agg [.val (.int .i64 (((a1.Read.getD x19.toNat default).P).X)), .val (.int .i64 (((a1.Read.getD x19.toNat default).P).Y))]), [], [], [68], []⟩, ⟨true, .v (.one (.bptr 5 0 0)), [], [], [9], []⟩, ⟨true, .v (.agg [.val (.int .i64 (((a1.Read.getD v26.toNat default).P).X)), .val (.int .i64 (((a1.Read.getD v26.toNat default).P).Y))]), [], [], [70], [5]⟩, ⟨true, .v (.one (.val (.int .i64 a2))), [], [], [1], []⟩, ⟨true, (ref12_apart_x v32).sh 7, obNv 7 (ref12_apart_o v32), obSh 7 (ref12_apart_o v32), [69, 71, 72], []⟩, ⟨true, boolV true, [], [], [73], []⟩, ⟨true, .v (.one (.bptr 1 0 1)), [], [], [2, 74], []⟩, ⟨true, .v (.one (tl e_Reading default a1.Read)), [], [], [74, 75], [1]⟩, ⟨true, .v (.one (.val (.int .i64 x19))), [], [], [8, 74], []⟩, ⟨true, .v (.one (.lptr (e_Reading (a1.Read.getD x19.toNat default)))), [], [], [74, 76, 77], []⟩, ⟨true, .v (.one (.lptr (e_Reading (a1.Read.getD x19.toNat default)))), [], [], [74, 78], []⟩, ⟨true, .v (.agg [.val (.int .i64 (((a1.Read.getD x19.toNat default).P).X)), .val (.int .i64 (((a1.Read.getD x19.toNat default).P).Y))]), [], [], [74, 79], []⟩, ⟨true, .v (.one (.bptr 6 0 0)), [], [], [10, 74], []⟩, ⟨true, .v (.agg [.val (.int .i64 (((a1.Read.getD v29.toNat default).P).X)), .val (.int .i64 (((a1.Read.getD v29.toNat default).P).Y))]), [], [], [74, 81], [6]⟩, ⟨true, .v (.one (.val (.int .i64 a2))), [], [], [1, 74], []⟩, ⟨true, (ref12_apart_x v35).sh 7, obNv 7 (ref12_apart_o v35), obSh 7 (ref12_apart_o v35), [74, 80, 82, 83], []⟩, ⟨true, .v (.one (.val (.bool v35))), [], [], [74, 84], []⟩] [0, 1, 0, 7, 15, 31, 0, 64, 0, 511, 1023, 2047, 4095, 2047, 16383, 32767, 65535, 2047, 133119, 2047, 1048575, 2097151] (by kernel_rfl) (by kernel_rfl) (by kernel_rfl) (by kernel_rfl) (by kernel_rfl) (by kernel_rfl) ?_ ?_
                · refine A_pure (.v (.one (.bptr 1 0 1))) [2] [] (True) (by kernel_rfl) trivial ?_
                  refine A_pure (.v (.one (tl e_Reading default a1.Read))) [64] [1] (True) (by kernel_rfl) trivial ?_
                  refine A_pure (.v (.one (.val (.int .i64 x19)))) [8] [] (True) (by kernel_rfl) trivial ?_
                  refine A_pure (.v (.one (.lptr (e_Reading (a1.Read.getD x19.toNat default))))) [65, 66] [] (0 ≤ x19 ∧ x19 < ((a1.Read.length : Nat) : Int)) (by kernel_rfl) (inb_of g24) ?_
                  refine A_pure (.v (.one (.lptr (e_Reading (a1.Read.getD x19.toNat default))))) [67] [] (True) (by kernel_rfl) trivial ?_
                  refine A_pure (.v (.agg [.val (.int .i64 (((a1.Read.getD x19.toNat default).P).X)), .val (.int .i64 (((a1.Read.getD x19.toNat default).P).Y))])) [68] [] (True) (by kernel_rfl) trivial ?_
                  refine A_pure (.v (.one (.bptr 5 0 0))) [9] [] (True) (by kernel_rfl) trivial ?_
                  refine A_pure (.v (.agg [.val (.int .i64 (((a1.Read.getD v26.toNat default).P).X)), .val (.int .i64 (((a1.Read.getD v26.toNat default).P).Y))])) [70] [5] (True) (by kernel_rfl) trivial ?_
                  refine A_pure (.v (.one (.val (.int .i64 a2)))) [1] [] (True) (by kernel_rfl) trivial ?_
                  refine A_run ⟨true, (ref12_apart_x v32).sh 7, obNv 7 (ref12_apart_o v32), obSh 7 (ref12_apart_o v32), [69, 71, 72], []⟩ (by kernel_rfl) (Step_call (x := ref12_apart_x v32) (ob := ref12_apart_o v32) (f := 34) (args := [(.tmp 69), (.tmp 71), (.tmp 72)]) (fn := Tryd.f34) (ys := [.agg [.val (.int .i64 (((a1.Read.getD x19.toNat default).P).X)), .val (.int .i64 (((a1.Read.getD x19.toNat default).P).Y))], .agg [.val (.int .i64 (((a1.Read.getD v26.toNat default).P).X)), .val (.int .i64 (((a1.Read.getD v26.toNat default).P).Y))], .one (.val (.int .i64 a2))]) 7 (by kernel_rfl) (by kernel_rfl) (by kernel_rfl) (by kernel_rfl) (by kernel_rfl) (by kernel_rfl) rfl (ref12_apart_ok ((a1.Read.getD x19.toNat default).P) ((a1.Read.getD v26.toNat default).P) a2 v32 h33) (by kernel_rfl) (by kernel_rfl)) ?_
                  refine A_pureE (boolV true) (boolV v32) (congrArg boolV b34) [73] [] (True) (by kernel_rfl) trivial ?_
                  refine A_pure (.v (.one (.bptr 1 0 1))) [2, 74] [] (True) (by kernel_rfl) trivial ?_
                  refine A_pure (.v (.one (tl e_Reading default a1.Read))) [74, 75] [1] (True) (by kernel_rfl) trivial ?_
                  refine A_pure (.v (.one (.val (.int .i64 x19)))) [8, 74] [] (True) (by kernel_rfl) trivial ?_
                  refine A_pure (.v (.one (.lptr (e_Reading (a1.Read.getD x19.toNat default))))) [74, 76, 77] [] (0 ≤ x19 ∧ x19 < ((a1.Read.length : Nat) : Int)) (by kernel_rfl) (inb_of g24) ?_
                  refine A_pure (.v (.one (.lptr (e_Reading (a1.Read.getD x19.toNat default))))) [74, 78] [] (True) (by kernel_rfl) trivial ?_
                  refine A_pure (.v (.agg [.val (.int .i64 (((a1.Read.getD x19.toNat default).P).X)), .val (.int .i64 (((a1.Read.getD x19.toNat default).P).Y))])) [74, 79] [] (True) (by kernel_rfl) trivial ?_
                  refine A_pure (.v (.one (.bptr 6 0 0))) [10, 74] [] (True) (by kernel_rfl) trivial ?_
                  refine A_pure (.v (.agg [.val (.int .i64 (((a1.Read.getD v29.toNat default).P).X)), .val (.int .i64 (((a1.Read.getD v29.toNat default).P).Y))])) [74, 81] [6] (True) (by kernel_rfl) trivial ?_
                  refine A_pure (.v (.one (.val (.int .i64 a2)))) [1, 74] [] (True) (by kernel_rfl) trivial ?_
                  refine A_run ⟨true, (ref12_apart_x v35).sh 7, obNv 7 (ref12_apart_o v35), obSh 7 (ref12_apart_o v35), [74, 80, 82, 83], []⟩ (by kernel_rfl) (Step_call (x := ref12_apart_x v35) (ob := ref12_apart_o v35) (f := 34) (args := [(.tmp 80), (.tmp 82), (.tmp 83)]) (fn := Tryd.f34) (ys := [.agg [.val (.int .i64 (((a1.Read.getD x19.toNat default).P).X)), .val (.int .i64 (((a1.Read.getD x19.toNat default).P).Y))], .agg [.val (.int .i64 (((a1.Read.getD v29.toNat default).P).X)), .val (.int .i64 (((a1.Read.getD v29.toNat default).P).Y))], .one (.val (.int .i64 a2))]) 7 (by kernel_rfl) (by kernel_rfl) (by kernel_rfl) (by kernel_rfl) (by kernel_rfl) (by kernel_rfl) rfl (ref12_apart_ok ((a1.Read.getD x19.toNat default).P) ((a1.Read.getD v29.toNat default).P) a2 v35 h36) (by kernel_rfl) (by kernel_rfl)) ?_
                  refine A_pure (.v (.one (.val (.bool v35)))) [74, 84] [] (True) (by kernel_rfl) trivial ?_
                  exact A_end
                · exact J_mk (v35) hm (by kernel_rfl) (by kernel_rfl)
              · replace hm := bif_f b34 hm
                refine R_draw 10 (rg Tryd.f18 [1, 1, 1, 1, 0, 1, 0, 0, 1, 0, 0, 1, 1, 0]) (by kernel_rfl) [⟨true, .v (.one (.bptr 1 0 1)), [], [], [2], []⟩, ⟨true, .v (.one (tl e_Reading default a1.Read)), [], [], [64], [1]⟩, ⟨true, .v (.one (.val (.int .i64 x19))), [], [], [8], []⟩, ⟨true, .v (.one (.lptr (e_Reading (a1.Read.getD x19.toNat default)))), [], [], [65, 66], []⟩, ⟨true, .v (.one (.lptr (e_Reading (a1.Read.getD x19.toNat default)))), [], [], [67], []⟩, ⟨true, .v (.agg [.val (.int .i64 (((a1.Read.getD x19.toNat default).P).X)), .val (.int .i64 (((a1.Read.getD x19.toNat default).P).Y))]), [], [], [68], []⟩, ⟨true, .v (.one (.bptr 5 0 0)), [], [], [9], []⟩, ⟨true, .v (.agg [.val (.int .i64 (((a1.Read.getD v26.toNat default).P).X)), .val (.int .i64 (((a1.Read.getD v26.toNat default).P).Y))]), [], [], [70], [5]⟩, ⟨true, .v (.one (.val (.int .i64 a2))), [], [], [1], []⟩, ⟨true, (ref12_apart_x v32).sh 7, obNv 7 (ref12_apart_o v32), obSh 7 (ref12_apart_o v32), [69, 71, 72], []⟩, ⟨true, boolV false, [], [], [73], []⟩, ⟨false, .undef, [], [], [74], []⟩, ⟨false, .undef, [], [], [74], []⟩, ⟨false, .undef, [], [], [74], []⟩, ⟨false, .undef, [], [], [74], []⟩, ⟨false, .undef, [], [], [74], []⟩, ⟨false, .undef, [], [], [74], []⟩, ⟨false, .undef, [], [], [74], []⟩, ⟨false, .undef, [], [], [74], []⟩, ⟨false, .undef, [], [], [74], []⟩, ⟨false, .undef, [], [], [74], []⟩, ⟨true, .v (.one (.val (.bool false))), [], [], [74, 84], []⟩] [0, 1, 0, 7, 15, 31, 0, 64, 0, 511, 1023, 2047, 4095, 2047, 16383, 32767, 65535, 2047, 133119, 2047, 1048575, 2097151] (by kernel_rfl) (by kernel_rfl) (by kernel_rfl) (by kernel_rfl) (by kernel_rfl) (by kernel_rfl) ?_ ?_
                · refine A_pure (.v (.one (.bptr 1 0 1))) [2] [] (True) (by kernel_rfl) trivial ?_
                  refine A_pure (.v (.one (tl e_Reading default a1.Read))) [64] [1] (True) (by kernel_rfl) trivial ?_
                  refine A_pure (.v (.one (.val (.int .i64 x19)))) [8] [] (True) (by kernel_rfl) trivial ?_
                  refine A_pure (.v (.one (.lptr (e_Reading (a1.Read.getD x19.toNat default))))) [65, 66] [] (0 ≤ x19 ∧ x19 < ((a1.Read.length : Nat) : Int)) (by kernel_rfl) (inb_of g24) ?_
                  refine A_pure (.v (.one (.lptr (e_Reading (a1.Read.getD x19.toNat default))))) [67] [] (True) (by kernel_rfl) trivial ?_
                  refine A_pure (.v (.agg [.val (.int .i64 (((a1.Read.getD x19.toNat default).P).X)), .val (.int .i64 (((a1.Read.getD x19.toNat default).P).Y))])) [68] [] (True) (by kernel_rfl) trivial ?_
                  refine A_pure (.v (.one (.bptr 5 0 0))) [9] [] (True) (by kernel_rfl) trivial ?_
                  refine A_pure (.v (.agg [.val (.int .i64 (((a1.Read.getD v26.toNat default).P).X)), .val (.int .i64 (((a1.Read.getD v26.toNat default).P).Y))])) [70] [5] (True) (by kernel_rfl) trivial ?_
                  refine A_pure (.v (.one (.val (.int .i64 a2)))) [1] [] (True) (by kernel_rfl) trivial ?_
                  refine A_run ⟨true, (ref12_apart_x v32).sh 7, obNv 7 (ref12_apart_o v32), obSh 7 (ref12_apart_o v32), [69, 71, 72], []⟩ (by kernel_rfl) (Step_call (x := ref12_apart_x v32) (ob := ref12_apart_o v32) (f := 34) (args := [(.tmp 69), (.tmp 71), (.tmp 72)]) (fn := Tryd.f34) (ys := [.agg [.val (.int .i64 (((a1.Read.getD x19.toNat default).P).X)), .val (.int .i64 (((a1.Read.getD x19.toNat default).P).Y))], .agg [.val (.int .i64 (((a1.Read.getD v26.toNat default).P).X)), .val (.int .i64 (((a1.Read.getD v26.toNat default).P).Y))], .one (.val (.int .i64 a2))]) 7 (by kernel_rfl) (by kernel_rfl) (by kernel_rfl) (by kernel_rfl) (by kernel_rfl) (by kernel_rfl) rfl (ref12_apart_ok ((a1.Read.getD x19.toNat default).P) ((a1.Read.getD v26.toNat default).P) a2 v32 h33) (by kernel_rfl) (by kernel_rfl)) ?_
                  refine A_pureE (boolV false) (boolV v32) (congrArg boolV b34) [73] [] (True) (by kernel_rfl) trivial ?_
                  refine A_skip [74] (by kernel_rfl) ?_
                  refine A_skip [74] (by kernel_rfl) ?_
                  refine A_skip [74] (by kernel_rfl) ?_
                  refine A_skip [74] (by kernel_rfl) ?_
                  refine A_skip [74] (by kernel_rfl) ?_
                  refine A_skip [74] (by kernel_rfl) ?_
                  refine A_skip [74] (by kernel_rfl) ?_
                  refine A_skip [74] (by kernel_rfl) ?_
                  refine A_skip [74] (by kernel_rfl) ?_
                  refine A_skip [74] (by kernel_rfl) ?_
                  refine A_pure (.v (.one (.val (.bool false)))) [74, 84] [] (True) (by kernel_rfl) trivial ?_
                  exact A_end
                · exact J_mk (false) hm (by kernel_rfl) (by kernel_rfl)
    · replace hm := bif_f b22 hm
      refine R_exit 0 (by kernel_rfl) ?_
      obtain rfl := Option.some.inj hm
      exact L0_mk (by kernel_rfl) (by kernel_rfl)

set_option maxRecDepth 100000 in
theorem ref12_Clean_ok (a1 : Ring) (a2 : Int) (r : Ring) (hm : ref12_Clean a1 a2 = some r) : Ct Tryd.prog globs 18 [.agg [.val (.int .i64 a1.Z), tl e_Reading default a1.Read], .one (.val (.int .i64 a2))] (ref12_Clean_x r) (ref12_Clean_o r) := by
  unfold ref12_Clean at hm
  refine Ct_of_H (fn := Tryd.f18) (c := nd Tryd.f18 []) mixed (by kernel_rfl) (by kernel_rfl) (by kernel_rfl) fun w A hg => ?_
  show H ({ P := Tryd.prog, w0 := w, nt := 92, A := A, globs := globs, mixed := mixed, glob := hg } : Ctx) _ _ _
  refine R_seq (nd Tryd.f18 [0]) (nd Tryd.f18 [1]) (by kernel_rfl) ?_
  refine R_region 0 (rg Tryd.f18 [0]) (by kernel_rfl) ?_
  have k3 : opsOk 92 (rg Tryd.f18 [0]) = true := by kernel_rfl
  refine P_step k3 ([(1, 0)]) ([(1, (0, .box 24 [.val (.int .i64 a1.Z), tl e_Reading default a1.Read]))]) (.v (.one (.bptr 1 0 0))) (by kernel_rfl) (Step_box 24 (.tmp 0) 1 0 (.agg [.val (.int .i64 a1.Z), tl e_Reading default a1.Read]) (by kernel_rfl) (by kernel_rfl) (by kernel_rfl)) ?_
  refine P_step k3 ([(2, 0)]) ([(2, (0, .box 24 [.val (.int .i64 0), .emp]))]) (.v (.one (.bptr 2 0 0))) (by kernel_rfl) (Step_alloc 24 2 0 [.val (.int .i64 0), .emp] (by kernel_rfl) (by kernel_rfl) (by kernel_rfl)) ?_
  refine HOps_end (by kernel_rfl) ?_
  refine R_seq (nd Tryd.f18 [1, 0]) (nd Tryd.f18 [1, 1]) (by kernel_rfl) ?_
  refine R_region 1 (rg Tryd.f18 [1, 0]) (by kernel_rfl) ?_
  have k4 : opsOk 92 (rg Tryd.f18 [1, 0]) = true := by kernel_rfl
  refine P_op k4 (.v (.agg [.val (.int .i64 a1.Z), tl e_Reading default a1.Read])) (by kernel_rfl) ?_
  obtain ⟨v5, h6, hm⟩ := bind_s hm
  refine P_step k4 (obNv 3 (ref12_Gaps_o v5)) (obSh 3 (ref12_Gaps_o v5)) ((ref12_Gaps_x v5).sh 3) (by kernel_rfl) (Step_call (x := ref12_Gaps_x v5) (ob := ref12_Gaps_o v5) (f := 13) (args := [(.tmp 12)]) (fn := Tryd.f13) (ys := [.agg [.val (.int .i64 a1.Z), tl e_Reading default a1.Read]]) 3 (by kernel_rfl) (by kernel_rfl) (by kernel_rfl) (by kernel_rfl) (by kernel_rfl) (by kernel_rfl) rfl (ref12_Gaps_ok a1 v5 h6) (by kernel_rfl) (by kernel_rfl)) ?_
  refine P_op k4 (.tup [.one (.val (.int .i64 v5.1)), .one (.val (.int .i64 v5.2))]) (by kernel_rfl) ?_
  refine P_op k4 (.v (.one (.val (.int .i64 v5.1)))) (by kernel_rfl) ?_
  refine P_op k4 (.v (.one (.val (.int .i64 v5.2)))) (by kernel_rfl) ?_
  refine P_op k4 (.v (.one (.val (.int .i64 v5.1)))) (by kernel_rfl) ?_
  refine P_op k4 (.v (.one (.val (.int .i64 v5.2)))) (by kernel_rfl) ?_
  refine HOps_end (by kernel_rfl) ?_
  refine R_seq (nd Tryd.f18 [1, 1, 0]) (nd Tryd.f18 [1, 1, 1]) (by kernel_rfl) ?_
  refine R_region 2 (rg Tryd.f18 [1, 1, 0]) (by kernel_rfl) ?_
  have k7 : opsOk 92 (rg Tryd.f18 [1, 1, 0]) = true := by kernel_rfl
  refine P_op k7 (.v (.agg [.val (.int .i64 a1.Z), tl e_Reading default a1.Read])) (by kernel_rfl) ?_
  obtain ⟨v8, h9, hm⟩ := bind_s hm
  refine P_step k7 (obNv 3 (ref12_copied_o v8)) (obSh 3 (ref12_copied_o v8)) ((ref12_copied_x v8).sh 3) (by kernel_rfl) (Step_call (x := ref12_copied_x v8) (ob := ref12_copied_o v8) (f := 32) (args := [(.tmp 16)]) (fn := Tryd.f32) (ys := [.agg [.val (.int .i64 a1.Z), tl e_Reading default a1.Read]]) 3 (by kernel_rfl) (by kernel_rfl) (by kernel_rfl) (by kernel_rfl) (by kernel_rfl) (by kernel_rfl) rfl (ref12_copied_ok a1 v8 h9) (by kernel_rfl) (by kernel_rfl)) ?_
  refine P_step k7 ([(4, 0)]) ([(4, (0, .box 24 [.val (.int .i64 0), .emp]))]) (.v (.one (.bptr 4 0 0))) (by kernel_rfl) (Step_alloc 24 4 0 [.val (.int .i64 0), .emp] (by kernel_rfl) (by kernel_rfl) (by kernel_rfl)) ?_
  refine P_write k7 ([(4, (0, .box 24 [.val (.int .i64 v8.Z), .own 3 0 3 v8.Read.length]))]) (.undef) (by kernel_rfl) (Step_store_box 24 (.tmp 7) (.tmp 17) 4 0 0 24 [.val (.int .i64 0), .emp] (.agg [.val (.int .i64 v8.Z), .own 3 0 3 v8.Read.length]) [.val (.int .i64 v8.Z), .own 3 0 3 v8.Read.length] (by kernel_rfl) (by kernel_rfl) (by kernel_rfl) (by kernel_rfl) (by kernel_rfl) (by kernel_rfl) (by kernel_rfl) (by kernel_rfl)) ?_
  refine HOps_end (by kernel_rfl) ?_
  refine R_seq (nd Tryd.f18 [1, 1, 1, 0]) (nd Tryd.f18 [1, 1, 1, 1]) (by kernel_rfl) ?_
  refine R_join (ι := Bool) (nd Tryd.f18 [1, 1, 1, 0, 0]) (nd Tryd.f18 [1, 1, 1, 0, 1]) (by kernel_rfl) (fun p => ref12_Clean_k1_S a1 a2 v8 p) (fun p => ref12_Clean_k1 a1 a2 v8 p = some r) ?_ ?_
  · rintro x15 hm
    show H _ (ref12_Clean_k1_S a1 a2 v8 x15) (nd Tryd.f18 [1, 1, 1, 0, 1]) _
    refine R_cond (.tmp 32) (nd Tryd.f18 [1, 1, 1, 0, 1, 0]) (nd Tryd.f18 [1, 1, 1, 0, 1, 1]) (by kernel_rfl) x15 (by kernel_rfl) (fun b16 => ?_) (fun b16 => ?_)
    · replace hm := bif_t b16 hm
      refine R_seq (nd Tryd.f18 [1, 1, 1, 0, 1, 0, 0]) (nd Tryd.f18 [1, 1, 1, 0, 1, 0, 1]) (by kernel_rfl) ?_
      refine R_region 4 (rg Tryd.f18 [1, 1, 1, 0, 1, 0, 0]) (by kernel_rfl) ?_
      have k17 : opsOk 92 (rg Tryd.f18 [1, 1, 1, 0, 1, 0, 0]) = true := by kernel_rfl
      refine P_op k17 (.v (.agg [.val (.int .i64 v8.Z), .own 3 0 3 v8.Read.length])) (by kernel_rfl) ?_
      refine P_write k17 ([(2, (0, .box 24 [.val (.int .i64 v8.Z), .own 3 0 3 v8.Read.length]))]) (.undef) (by kernel_rfl) (Step_store_box 24 (.tmp 4) (.tmp 33) 2 0 0 24 [.val (.int .i64 0), .emp] (.agg [.val (.int .i64 v8.Z), .own 3 0 3 v8.Read.length]) [.val (.int .i64 v8.Z), .own 3 0 3 v8.Read.length] (by kernel_rfl) (by kernel_rfl) (by kernel_rfl) (by kernel_rfl) (by kernel_rfl) (by kernel_rfl) (by kernel_rfl) (by kernel_rfl)) ?_
      refine HOps_end (by kernel_rfl) ?_
      obtain rfl := Option.some.inj hm
      refine H_swap 3 0 ?_
      refine R_ret (by kernel_rfl) ?_
      exact ret_mk (by kernel_rfl) (by kernel_rfl)
    · replace hm := bif_f b16 hm
      refine R_skip (by kernel_rfl) ?_
      refine R_seq (nd Tryd.f18 [1, 1, 1, 1, 0]) (nd Tryd.f18 [1, 1, 1, 1, 1]) (by kernel_rfl) ?_
      refine R_seq (nd Tryd.f18 [1, 1, 1, 1, 0, 0]) (nd Tryd.f18 [1, 1, 1, 1, 0, 1]) (by kernel_rfl) ?_
      refine R_region 5 (rg Tryd.f18 [1, 1, 1, 1, 0, 0]) (by kernel_rfl) ?_
      have k18 : opsOk 92 (rg Tryd.f18 [1, 1, 1, 1, 0, 0]) = true := by kernel_rfl
      refine P_op k18 (.v (.one (.val (.int .i64 0)))) (by kernel_rfl) ?_
      refine HOps_end (by kernel_rfl) ?_
      obtain ⟨o44, h45, hm⟩ := bind_s hm
      refine R_loop0 (nd Tryd.f18 [1, 1, 1, 1, 0, 1, 0, 0]) 0 (by kernel_rfl) FUEL (fun o => ref12_Clean_L2_T v8 o) o44 (HL_enter (ref12_Clean_L2_S a1 a2 v8 0 v8.Read v8.Read.length) (by kernel_rfl) (by kernel_rfl) (ref12_Clean_L2_ok w A hg a1 a2 v8 FUEL 0 v8.Read v8.Read.length o44 rfl h45)) ?_
      refine R_seq (nd Tryd.f18 [1, 1, 1, 1, 1, 0]) (nd Tryd.f18 [1, 1, 1, 1, 1, 1]) (by kernel_rfl) ?_
      refine R_region 12 (rg Tryd.f18 [1, 1, 1, 1, 1, 0]) (by kernel_rfl) ?_
      have k46 : opsOk 92 (rg Tryd.f18 [1, 1, 1, 1, 1, 0]) = true := by kernel_rfl
      refine P_op k46 (.v (.agg [.val (.int .i64 v8.Z), .own 3 0 3 o44.length])) (by kernel_rfl) ?_
      refine P_write k46 ([(2, (0, .box 24 [.val (.int .i64 v8.Z), .own 3 0 3 o44.length]))]) (.undef) (by kernel_rfl) (Step_store_box 24 (.tmp 4) (.tmp 91) 2 0 0 24 [.val (.int .i64 0), .emp] (.agg [.val (.int .i64 v8.Z), .own 3 0 3 o44.length]) [.val (.int .i64 v8.Z), .own 3 0 3 o44.length] (by kernel_rfl) (by kernel_rfl) (by kernel_rfl) (by kernel_rfl) (by kernel_rfl) (by kernel_rfl) (by kernel_rfl) (by kernel_rfl)) ?_
      refine HOps_end (by kernel_rfl) ?_
      obtain rfl := Option.some.inj hm
      refine H_swap 3 0 ?_
      refine R_ret (by kernel_rfl) ?_
      exact ret_mk (by kernel_rfl) (by kernel_rfl)
  · refine R_region 3 (rg Tryd.f18 [1, 1, 1, 0, 0]) (by kernel_rfl) ?_
    have k10 : opsOk 92 (rg Tryd.f18 [1, 1, 1, 0, 0]) = true := by kernel_rfl
    refine P_op k10 (.v (.one (.val (.int .i64 a2)))) (by kernel_rfl) ?_
    refine P_op k10 (.v (.one (.val (.bool (decide (a2 < 0)))))) (by kernel_rfl) ?_
    refine P_op k10 (.v (.one (.val (.bool (decide (a2 < 0)))))) (by kernel_rfl) ?_
    refine HOps_bool 20 (decide (a2 < 0)) (by kernel_rfl) (fun b11 => ?_) (fun b11 => ?_)
    · replace hm := bif_t b11 hm
      refine P_skip k10 (by kernel_rfl) ?_
      refine P_skip k10 (by kernel_rfl) ?_
      refine P_skip k10 (by kernel_rfl) ?_
      refine P_skip k10 (by kernel_rfl) ?_
      refine P_skip k10 (by kernel_rfl) ?_
      refine P_skip k10 (by kernel_rfl) ?_
      refine P_op k10 (.v (.one (.val (.bool true)))) (by kernel_rfl) ?_
      refine P_op k10 (.v (.one (.val (.bool true)))) (by kernel_rfl) ?_
      refine P_skip k10 (by kernel_rfl) ?_
      refine P_skip k10 (by kernel_rfl) ?_
      refine P_skip k10 (by kernel_rfl) ?_
      refine P_op k10 (.v (.one (.val (.bool true)))) (by kernel_rfl) ?_
      refine HOps_end (by kernel_rfl) ?_
      exact J_mk (true) hm (by kernel_rfl) (by kernel_rfl)
    · replace hm := bif_f b11 hm
      refine P_op k10 (.v (.one (.bptr 1 0 1))) (by kernel_rfl) ?_
      refine P_op k10 (.v (.one (tl e_Reading default a1.Read))) (by kernel_rfl) ?_
      refine P_op k10 (.v (.one (.val (.int .i64 ((a1.Read.length : Nat) : Int))))) (by kernel_rfl) ?_
      refine P_op k10 (.v (.one (.val (.int .i64 v5.1)))) (by kernel_rfl) ?_
      refine P_op k10 (.v (.one (.val (.int .i64 (w64 (((a1.Read.length : Nat) : Int) - v5.1)))))) (by kernel_rfl) ?_
      refine P_op k10 (.v (.one (.val (.bool (decide ((w64 (((a1.Read.length : Nat) : Int) - v5.1)) < 2)))))) (by kernel_rfl) ?_
      refine P_op k10 (.v (.one (.val (.bool (decide ((w64 (((a1.Read.length : Nat) : Int) - v5.1)) < 2)))))) (by kernel_rfl) ?_
      refine P_op k10 (.v (.one (.val (.bool (decide ((w64 (((a1.Read.length : Nat) : Int) - v5.1)) < 2)))))) (by kernel_rfl) ?_
      refine HOps_bool 28 (decide ((w64 (((a1.Read.length : Nat) : Int) - v5.1)) < 2)) (by kernel_rfl) (fun b12 => ?_) (fun b12 => ?_)
      · replace hm := bif_t b12 hm
        refine P_skip k10 (by kernel_rfl) ?_
        refine P_skip k10 (by kernel_rfl) ?_
        refine P_skip k10 (by kernel_rfl) ?_
        refine P_op k10 (.v (.one (.val (.bool true)))) (by kernel_rfl) ?_
        refine HOps_end (by kernel_rfl) ?_
        exact J_mk (true) hm (by kernel_rfl) (by kernel_rfl)
      · replace hm := bif_f b12 hm
        refine P_op k10 (.v (.agg [.val (.int .i64 a1.Z), tl e_Reading default a1.Read])) (by kernel_rfl) ?_
        obtain ⟨v13, h14, hm⟩ := bind_s hm
        refine P_step k10 (obNv 5 (ref12_Check_o v13)) (obSh 5 (ref12_Check_o v13)) ((ref12_Check_x v13).sh 5) (by kernel_rfl) (Step_call (x := ref12_Check_x v13) (ob := ref12_Check_o v13) (f := 15) (args := [(.tmp 29)]) (fn := Tryd.f15) (ys := [.agg [.val (.int .i64 a1.Z), tl e_Reading default a1.Read]]) 5 (by kernel_rfl) (by kernel_rfl) (by kernel_rfl) (by kernel_rfl) (by kernel_rfl) (by kernel_rfl) rfl (ref12_Check_ok a1 v13 h14) (by kernel_rfl) (by kernel_rfl)) ?_
        refine P_op k10 (.v (.one (.val (.bool (v13 != 0))))) (by kernel_rfl) ?_
        refine P_op k10 (.v (.one (.val (.bool (v13 != 0))))) (by kernel_rfl) ?_
        refine HOps_end (by kernel_rfl) ?_
        exact J_mk (v13 != 0) hm (by kernel_rfl) (by kernel_rfl)

end Saw
end Go.SL
