import Derived.Test.YtfpgdgmcmkileaaDoorRBase
import Derived.Test.YtfpgdgmcmkileaaDoorRA1
import Derived.Test.YtfpgdgmcmkileaaDoorRA2
set_option linter.unusedVariables false
set_option linter.unusedSimpArgs false
namespace Go.SL
namespace Saw
open Go.Proofs
set_option maxHeartbeats 4000000

def poly_canTurn_x (r : Bool) : V := .v (.one (.val (.bool r)))

def poly_canTurn_o (r : Bool) : List (Nat × (Nat × O)) := []

theorem poly_canTurn_f (r : Bool) : Frozen (poly_canTurn_o r) := by
  intro i k o h
  unfold poly_canTurn_o at h
  cases h

def poly_canTurn_k2_S (a1 : List Point) (x4 : Int) (x11 : Bool) : St :=
  { slots := [(5, .v (.one (tl e_Point default a1))), (6, .v (.one (.val (.int .i64 ((a1.length : Nat) : Int))))), (7, .v (.one (.val (.int .i64 x4)))), (18, .v (.one (.val (.bool x11))))], objs := [] }

def poly_canTurn_L1_S (a1 : List Point) (x4 : Int) : St :=
  { slots := [(5, .v (.one (tl e_Point default a1))), (6, .v (.one (.val (.int .i64 ((a1.length : Nat) : Int))))), (7, .v (.one (.val (.int .i64 x4))))], objs := [] }

def poly_canTurn_L1_T : St :=
  { slots := [], objs := [] }

set_option maxRecDepth 100000 in
theorem poly_canTurn_L1_ok (w : World) (A : Nat → Prop) (hg : Globs globs w A) (a1 : List Point) : ∀ (n : Nat) (x4 : Int) (res : Bool ⊕ Unit), poly_canTurn_L1 a1 n x4 = some res → HL ({ P := Tryd.prog, w0 := w, nt := 20, A := A, globs := globs, mixed := mixed, glob := hg } : Ctx) (nd Tryd.f41 [1, 0, 1, 0, 0]) (loopQ 0 (fun o => poly_canTurn_L1_T) (fun v st => RetQ Tryd.prog Tryd.f41 (poly_canTurn_x v) (poly_canTurn_o v) .ret st) res) n (poly_canTurn_L1_S a1 x4) := by
  intro n
  induction n with
  | zero =>
    intro x4 res hm
    cases hm
  | succ n ih =>
    intro x4 res hm
    refine HL_succ ?_
    refine R_seq (nd Tryd.f41 [1, 0, 1, 0, 0, 0]) (nd Tryd.f41 [1, 0, 1, 0, 0, 1]) (by kernel_rfl) ?_
    refine R_region 2 (rg Tryd.f41 [1, 0, 1, 0, 0, 0]) (by kernel_rfl) ?_
    have k5 : opsOk 20 (rg Tryd.f41 [1, 0, 1, 0, 0, 0]) = true := by kernel_rfl
    refine P_op k5 (.v (.one (.val (.bool (decide (x4 < ((a1.length : Nat) : Int))))))) (by kernel_rfl) ?_
    refine HOps_end (by kernel_rfl) ?_
    refine R_seq (nd Tryd.f41 [1, 0, 1, 0, 0, 1, 0]) (nd Tryd.f41 [1, 0, 1, 0, 0, 1, 1]) (by kernel_rfl) ?_
    refine R_cond (.tmp 8) (nd Tryd.f41 [1, 0, 1, 0, 0, 1, 0, 0]) (nd Tryd.f41 [1, 0, 1, 0, 0, 1, 0, 1]) (by kernel_rfl) (decide (x4 < ((a1.length : Nat) : Int))) (by kernel_rfl) (fun b6 => ?_) (fun b6 => ?_)
    · replace hm := bif_t b6 hm
      refine R_skip (by kernel_rfl) ?_
      refine R_seq (nd Tryd.f41 [1, 0, 1, 0, 0, 1, 1, 0]) (nd Tryd.f41 [1, 0, 1, 0, 0, 1, 1, 1]) (by kernel_rfl) ?_
      refine R_block 1 (nd Tryd.f41 [1, 0, 1, 0, 0, 1, 1, 0, 0]) (by kernel_rfl) ?_
      refine R_seq (nd Tryd.f41 [1, 0, 1, 0, 0, 1, 1, 0, 0, 0]) (nd Tryd.f41 [1, 0, 1, 0, 0, 1, 1, 0, 0, 1]) (by kernel_rfl) ?_
      refine R_region 3 (rg Tryd.f41 [1, 0, 1, 0, 0, 1, 1, 0, 0, 0]) (by kernel_rfl) ?_
      have k7 : opsOk 20 (rg Tryd.f41 [1, 0, 1, 0, 0, 1, 1, 0, 0, 0]) = true := by kernel_rfl
      obtain ⟨g8, hm⟩ := bif_n hm
      refine P_opc k7 (.v (.one (.lptr (e_Point (a1.getD x4.toNat default))))) (0 ≤ x4 ∧ x4 < ((a1.length : Nat) : Int)) (by kernel_rfl) (inb_of g8) ?_
      refine P_op k7 (.v (.agg [.val (.int .i64 ((a1.getD x4.toNat default).X)), .val (.int .i64 ((a1.getD x4.toNat default).Y))])) (by kernel_rfl) ?_
      refine P_step k7 ([(1, 0)]) ([(1, (0, .box 38 [.val (.int .i64 0), .val (.int .i64 0)]))]) (.v (.one (.bptr 1 0 0))) (by kernel_rfl) (Step_alloc 38 1 0 [.val (.int .i64 0), .val (.int .i64 0)] (by kernel_rfl) (by kernel_rfl) (by kernel_rfl)) ?_
      refine P_write k7 ([(1, (0, .box 38 [.val (.int .i64 ((a1.getD x4.toNat default).X)), .val (.int .i64 ((a1.getD x4.toNat default).Y))]))]) (.undef) (by kernel_rfl) (Step_store_box 38 (.tmp 4) (.tmp 10) 1 0 0 38 [.val (.int .i64 0), .val (.int .i64 0)] (.agg [.val (.int .i64 ((a1.getD x4.toNat default).X)), .val (.int .i64 ((a1.getD x4.toNat default).Y))]) [.val (.int .i64 ((a1.getD x4.toNat default).X)), .val (.int .i64 ((a1.getD x4.toNat default).Y))] (by kernel_rfl) (by kernel_rfl) (by kernel_rfl) (by kernel_rfl) (by kernel_rfl) (by kernel_rfl) (by kernel_rfl) (by kernel_rfl)) ?_
      refine HOps_end (by kernel_rfl) ?_
      refine R_join (ι := Bool) (nd Tryd.f41 [1, 0, 1, 0, 0, 1, 1, 0, 0, 1, 0]) (nd Tryd.f41 [1, 0, 1, 0, 0, 1, 1, 0, 0, 1, 1]) (by kernel_rfl) (fun p => poly_canTurn_k2_S a1 x4 p) (fun p => poly_canTurn_k2 x4 (poly_canTurn_L1 a1 n) p = some res) ?_ ?_
      · rintro x11 hm
        show H _ (poly_canTurn_k2_S a1 x4 x11) (nd Tryd.f41 [1, 0, 1, 0, 0, 1, 1, 0, 0, 1, 1]) _
        refine R_cond (.tmp 18) (nd Tryd.f41 [1, 0, 1, 0, 0, 1, 1, 0, 0, 1, 1, 0]) (nd Tryd.f41 [1, 0, 1, 0, 0, 1, 1, 0, 0, 1, 1, 1]) (by kernel_rfl) x11 (by kernel_rfl) (fun b12 => ?_) (fun b12 => ?_)
        · replace hm := bif_t b12 hm
          refine R_seq (nd Tryd.f41 [1, 0, 1, 0, 0, 1, 1, 0, 0, 1, 1, 0, 0]) (nd Tryd.f41 [1, 0, 1, 0, 0, 1, 1, 0, 0, 1, 1, 0, 1]) (by kernel_rfl) ?_
          refine R_region 5 (rg Tryd.f41 [1, 0, 1, 0, 0, 1, 1, 0, 0, 1, 1, 0, 0]) (by kernel_rfl) ?_
          have k13 : opsOk 20 (rg Tryd.f41 [1, 0, 1, 0, 0, 1, 1, 0, 0, 1, 1, 0, 0]) = true := by kernel_rfl
          refine P_op k13 (.v (.one (.val (.bool false)))) (by kernel_rfl) ?_
          refine HOps_end (by kernel_rfl) ?_
          obtain rfl := Option.some.inj hm
          refine R_ret (by kernel_rfl) ?_
          refine L1_ret false ?_
          exact ret_mk (by kernel_rfl) (by kernel_rfl)
        · replace hm := bif_f b12 hm
          refine R_skip (by kernel_rfl) ?_
          refine R_region 6 (rg Tryd.f41 [1, 0, 1, 0, 0, 1, 1, 1]) (by kernel_rfl) ?_
          have k14 : opsOk 20 (rg Tryd.f41 [1, 0, 1, 0, 0, 1, 1, 1]) = true := by kernel_rfl
          refine P_op k14 (.v (.one (.val (.int .i64 (w64 (x4 + 1)))))) (by kernel_rfl) ?_
          refine P_op k14 (.v (.one (.val (.int .i64 (w64 (x4 + 1)))))) (by kernel_rfl) ?_
          refine HOps_end (by kernel_rfl) ?_
          exact HL_enter (poly_canTurn_L1_S a1 (w64 (x4 + 1))) (by kernel_rfl) (by kernel_rfl) (ih (w64 (x4 + 1)) _ hm)
      · refine R_region 4 (rg Tryd.f41 [1, 0, 1, 0, 0, 1, 1, 0, 0, 1, 0]) (by kernel_rfl) ?_
        have k9 : opsOk 20 (rg Tryd.f41 [1, 0, 1, 0, 0, 1, 1, 0, 0, 1, 0]) = true := by kernel_rfl
        refine P_op k9 (.v (.one (.bptr 1 0 0))) (by kernel_rfl) ?_
        refine P_op k9 (.v (.one (.val (.int .i64 ((a1.getD x4.toNat default).X))))) (by kernel_rfl) ?_
        refine P_op k9 (.v (.one (.val (.bool (((a1.getD x4.toNat default).X) == (-9223372036854775808)))))) (by kernel_rfl) ?_
        refine P_op k9 (.v (.one (.val (.bool (((a1.getD x4.toNat default).X) == (-9223372036854775808)))))) (by kernel_rfl) ?_
        refine HOps_bool 14 (((a1.getD x4.toNat default).X) == (-9223372036854775808)) (by kernel_rfl) (fun b10 => ?_) (fun b10 => ?_)
        · replace hm := bif_t b10 hm
          refine P_skip k9 (by kernel_rfl) ?_
          refine P_skip k9 (by kernel_rfl) ?_
          refine P_skip k9 (by kernel_rfl) ?_
          refine P_op k9 (.v (.one (.val (.bool true)))) (by kernel_rfl) ?_
          refine HOps_end (by kernel_rfl) ?_
          exact J_mk (true) hm (by kernel_rfl) (by kernel_rfl)
        · replace hm := bif_f b10 hm
          refine P_op k9 (.v (.one (.bptr 1 0 1))) (by kernel_rfl) ?_
          refine P_op k9 (.v (.one (.val (.int .i64 ((a1.getD x4.toNat default).Y))))) (by kernel_rfl) ?_
          refine P_op k9 (.v (.one (.val (.bool (((a1.getD x4.toNat default).Y) == (-9223372036854775808)))))) (by kernel_rfl) ?_
          refine P_op k9 (.v (.one (.val (.bool (((a1.getD x4.toNat default).Y) == (-9223372036854775808)))))) (by kernel_rfl) ?_
          refine HOps_end (by kernel_rfl) ?_
          exact J_mk (((a1.getD x4.toNat default).Y) == (-9223372036854775808)) hm (by kernel_rfl) (by kernel_rfl)
    · replace hm := bif_f b6 hm
      refine R_exit 0 (by kernel_rfl) ?_
      obtain rfl := Option.some.inj hm
      exact L1_mk () (by kernel_rfl) (by kernel_rfl)

set_option maxRecDepth 100000 in
theorem poly_canTurn_ok (a1 : List Point) (r : Bool) (hm : poly_canTurn a1 = some r) : Ct Tryd.prog globs 41 [.one (tl e_Point default a1)] (poly_canTurn_x r) (poly_canTurn_o r) := by
  unfold poly_canTurn at hm
  refine Ct_of_H (fn := Tryd.f41) (c := nd Tryd.f41 []) mixed (by kernel_rfl) (by kernel_rfl) (by kernel_rfl) fun w A hg => ?_
  show H ({ P := Tryd.prog, w0 := w, nt := 20, A := A, globs := globs, mixed := mixed, glob := hg } : Ctx) _ _ _
  refine R_seq (nd Tryd.f41 [0]) (nd Tryd.f41 [1]) (by kernel_rfl) ?_
  refine R_region 0 (rg Tryd.f41 [0]) (by kernel_rfl) ?_
  have k2 : opsOk 20 (rg Tryd.f41 [0]) = true := by kernel_rfl
  refine P_op k2 (.v (.one (.val (.bool false)))) (by kernel_rfl) ?_
  refine HOps_end (by kernel_rfl) ?_
  refine R_seq (nd Tryd.f41 [1, 0]) (nd Tryd.f41 [1, 1]) (by kernel_rfl) ?_
  refine R_seq (nd Tryd.f41 [1, 0, 0]) (nd Tryd.f41 [1, 0, 1]) (by kernel_rfl) ?_
  refine R_region 1 (rg Tryd.f41 [1, 0, 0]) (by kernel_rfl) ?_
  have k3 : opsOk 20 (rg Tryd.f41 [1, 0, 0]) = true := by kernel_rfl
  refine P_op k3 (.v (.one (tl e_Point default a1))) (by kernel_rfl) ?_
  refine P_op k3 (.v (.one (.val (.int .i64 ((a1.length : Nat) : Int))))) (by kernel_rfl) ?_
  refine P_op k3 (.v (.one (.val (.int .i64 0)))) (by kernel_rfl) ?_
  refine HOps_end (by kernel_rfl) ?_
  obtain ⟨u17, h16, hm⟩ := bind_s hm
  refine R_loop1 (nd Tryd.f41 [1, 0, 1, 0, 0]) 0 (by kernel_rfl) FUEL (fun o => poly_canTurn_L1_T) (fun v st => RetQ Tryd.prog Tryd.f41 (poly_canTurn_x v) (poly_canTurn_o v) .ret st) u17 (HL_enter (poly_canTurn_L1_S a1 0) (by kernel_rfl) (by kernel_rfl) (poly_canTurn_L1_ok w A hg a1 FUEL 0 u17 h16)) ?_ ?_
  · rintro v18 rfl st hr
    obtain rfl := Option.some.inj hm
    exact hr
  · rintro o15 rfl
    replace hm : _ = some r := hm
    refine R_seq (nd Tryd.f41 [1, 1, 0]) (nd Tryd.f41 [1, 1, 1]) (by kernel_rfl) ?_
    refine R_region 7 (rg Tryd.f41 [1, 1, 0]) (by kernel_rfl) ?_
    have k19 : opsOk 20 (rg Tryd.f41 [1, 1, 0]) = true := by kernel_rfl
    refine P_op k19 (.v (.one (.val (.bool true)))) (by kernel_rfl) ?_
    refine HOps_end (by kernel_rfl) ?_
    obtain rfl := Option.some.inj hm
    refine R_ret (by kernel_rfl) ?_
    exact ret_mk (by kernel_rfl) (by kernel_rfl)

end Saw
end Go.SL

namespace Go.SL
namespace Saw
open Go.Proofs
set_option maxHeartbeats 4000000

def poly_Turn_x (r : (List Point)) : V := .v (.one (.own 0 0 2 r.length))

def poly_Turn_o (r : (List Point)) : List (Nat × (Nat × O)) := [(0, (0, .row 38 2 r.length (rowf e_Point default r)))]

theorem poly_Turn_f (r : (List Point)) : Frozen (poly_Turn_o r) := by
  intro i k o h
  unfold poly_Turn_o at h
  rw [look_cons] at h
  split at h
  · cases h; exact fun _ _ => rfl
  · cases h

def poly_Turn_L1_S (a1 : List Point) (a2 : Int) (l14 : List Point) (l14n : Nat) (x15 : Int) : St :=
  { slots := [(5, .v (.one (.bptr 1 0 0))), (6, .v (.one (.own 2 0 2 l14n))), (21, .v (.one (tl e_Point default a1))), (22, .v (.one (.val (.int .i64 ((a1.length : Nat) : Int))))), (23, .v (.one (.val (.int .i64 x15))))], objs := [(1, (0, .box 38 [.val (.int .i64 ((tab_turns.getD (Int.tmod (w64 ((Int.tmod a2 4) + 4)) 4).toNat default).X)), .val (.int .i64 ((tab_turns.getD (Int.tmod (w64 ((Int.tmod a2 4) + 4)) 4).toNat default).Y))])), (2, (0, .row 38 2 l14n (rowf e_Point default l14)))] }

def poly_Turn_L1_T (l23 : List Point) : St :=
  { slots := [(6, .v (.one (.own 2 0 2 l23.length)))], objs := [(2, (0, .row 38 2 l23.length (rowf e_Point default l23)))] }

set_option maxRecDepth 100000 in
theorem poly_Turn_L1_ok (w : World) (A : Nat → Prop) (hg : Globs globs w A) (a1 : List Point) (a2 : Int) : ∀ (n : Nat) (l14 : List Point) (l14n : Nat) (x15 : Int) (res : (List Point)), l14.length = l14n → poly_Turn_L1 a1 a2 n l14 x15 = some res → HL ({ P := Tryd.prog, w0 := w, nt := 56, A := A, globs := globs, mixed := mixed, glob := hg } : Ctx) (nd Tryd.f35 [1, 1, 1, 1, 0, 1, 0, 0]) (loopQ0 0 (fun o => poly_Turn_L1_T o) res) n (poly_Turn_L1_S a1 a2 l14 l14n x15) := by
  intro n
  induction n with
  | zero =>
    intro l14 l14n x15 res hl0 hm
    cases hm
  | succ n ih =>
    intro l14 l14n x15 res hl0 hm
    subst hl0
    refine HL_succ ?_
    refine R_seq (nd Tryd.f35 [1, 1, 1, 1, 0, 1, 0, 0, 0]) (nd Tryd.f35 [1, 1, 1, 1, 0, 1, 0, 0, 1]) (by kernel_rfl) ?_
    refine R_region 6 (rg Tryd.f35 [1, 1, 1, 1, 0, 1, 0, 0, 0]) (by kernel_rfl) ?_
    have k16 : opsOk 56 (rg Tryd.f35 [1, 1, 1, 1, 0, 1, 0, 0, 0]) = true := by kernel_rfl
    refine P_op k16 (.v (.one (.val (.bool (decide (x15 < ((a1.length : Nat) : Int))))))) (by kernel_rfl) ?_
    refine HOps_end (by kernel_rfl) ?_
    refine R_seq (nd Tryd.f35 [1, 1, 1, 1, 0, 1, 0, 0, 1, 0]) (nd Tryd.f35 [1, 1, 1, 1, 0, 1, 0, 0, 1, 1]) (by kernel_rfl) ?_
    refine R_cond (.tmp 24) (nd Tryd.f35 [1, 1, 1, 1, 0, 1, 0, 0, 1, 0, 0]) (nd Tryd.f35 [1, 1, 1, 1, 0, 1, 0, 0, 1, 0, 1]) (by kernel_rfl) (decide (x15 < ((a1.length : Nat) : Int))) (by kernel_rfl) (fun b17 => ?_) (fun b17 => ?_)
    · replace hm := bif_t b17 hm
      refine R_skip (by kernel_rfl) ?_
      refine R_seq (nd Tryd.f35 [1, 1, 1, 1, 0, 1, 0, 0, 1, 1, 0]) (nd Tryd.f35 [1, 1, 1, 1, 0, 1, 0, 0, 1, 1, 1]) (by kernel_rfl) ?_
      refine R_block 1 (nd Tryd.f35 [1, 1, 1, 1, 0, 1, 0, 0, 1, 1, 0, 0]) (by kernel_rfl) ?_
      refine R_seq (nd Tryd.f35 [1, 1, 1, 1, 0, 1, 0, 0, 1, 1, 0, 0, 0]) (nd Tryd.f35 [1, 1, 1, 1, 0, 1, 0, 0, 1, 1, 0, 0, 1]) (by kernel_rfl) ?_
      refine R_region 7 (rg Tryd.f35 [1, 1, 1, 1, 0, 1, 0, 0, 1, 1, 0, 0, 0]) (by kernel_rfl) ?_
      have k18 : opsOk 56 (rg Tryd.f35 [1, 1, 1, 1, 0, 1, 0, 0, 1, 1, 0, 0, 0]) = true := by kernel_rfl
      refine P_op k18 (.v (.one (.val (.int .i64 x15)))) (by kernel_rfl) ?_
      obtain ⟨g19, hm⟩ := bif_n hm
      refine P_opc k18 (.v (.one (.lptr (e_Point (a1.getD x15.toNat default))))) (0 ≤ x15 ∧ x15 < ((a1.length : Nat) : Int)) (by kernel_rfl) (inb_of g19) ?_
      refine P_op k18 (.v (.agg [.val (.int .i64 ((a1.getD x15.toNat default).X)), .val (.int .i64 ((a1.getD x15.toNat default).Y))])) (by kernel_rfl) ?_
      refine P_step k18 ([(3, 0)]) ([(3, (0, .box 38 [.val (.int .i64 0), .val (.int .i64 0)]))]) (.v (.one (.bptr 3 0 0))) (by kernel_rfl) (Step_alloc 38 3 0 [.val (.int .i64 0), .val (.int .i64 0)] (by kernel_rfl) (by kernel_rfl) (by kernel_rfl)) ?_
      refine P_op k18 (.v (.one (.val (.int .i64 x15)))) (by kernel_rfl) ?_
      refine P_write k18 ([(3, (0, .box 38 [.val (.int .i64 ((a1.getD x15.toNat default).X)), .val (.int .i64 ((a1.getD x15.toNat default).Y))]))]) (.undef) (by kernel_rfl) (Step_store_box 38 (.tmp 8) (.tmp 27) 3 0 0 38 [.val (.int .i64 0), .val (.int .i64 0)] (.agg [.val (.int .i64 ((a1.getD x15.toNat default).X)), .val (.int .i64 ((a1.getD x15.toNat default).Y))]) [.val (.int .i64 ((a1.getD x15.toNat default).X)), .val (.int .i64 ((a1.getD x15.toNat default).Y))] (by kernel_rfl) (by kernel_rfl) (by kernel_rfl) (by kernel_rfl) (by kernel_rfl) (by kernel_rfl) (by kernel_rfl) (by kernel_rfl)) ?_
      refine HOps_end (by kernel_rfl) ?_
      refine R_region 8 (rg Tryd.f35 [1, 1, 1, 1, 0, 1, 0, 0, 1, 1, 0, 0, 1]) (by kernel_rfl) ?_
      have k20 : opsOk 56 (rg Tryd.f35 [1, 1, 1, 1, 0, 1, 0, 0, 1, 1, 0, 0, 1]) = true := by kernel_rfl
      refine P_op k20 (.v (.one (.own 2 0 2 l14.length))) (by kernel_rfl) ?_
      refine P_op k20 (.v (.one (.val (.int .i64 x15)))) (by kernel_rfl) ?_
      refine P_op k20 (.v (.one (.bptr 1 0 0))) (by kernel_rfl) ?_
      refine P_op k20 (.v (.one (.val (.int .i64 ((tab_turns.getD (Int.tmod (w64 ((Int.tmod a2 4) + 4)) 4).toNat default).X))))) (by kernel_rfl) ?_
      refine P_op k20 (.v (.one (.bptr 3 0 0))) (by kernel_rfl) ?_
      refine P_op k20 (.v (.one (.val (.int .i64 ((a1.getD x15.toNat default).X))))) (by kernel_rfl) ?_
      refine P_op k20 (.v (.one (.val (.int .i64 (w64 (((tab_turns.getD (Int.tmod (w64 ((Int.tmod a2 4) + 4)) 4).toNat default).X) * ((a1.getD x15.toNat default).X))))))) (by kernel_rfl) ?_
      refine P_op k20 (.v (.one (.bptr 1 0 1))) (by kernel_rfl) ?_
      refine P_op k20 (.v (.one (.val (.int .i64 ((tab_turns.getD (Int.tmod (w64 ((Int.tmod a2 4) + 4)) 4).toNat default).Y))))) (by kernel_rfl) ?_
      refine P_op k20 (.v (.one (.bptr 3 0 1))) (by kernel_rfl) ?_
      refine P_op k20 (.v (.one (.val (.int .i64 ((a1.getD x15.toNat default).Y))))) (by kernel_rfl) ?_
      refine P_op k20 (.v (.one (.val (.int .i64 (w64 (((tab_turns.getD (Int.tmod (w64 ((Int.tmod a2 4) + 4)) 4).toNat default).Y) * ((a1.getD x15.toNat default).Y))))))) (by kernel_rfl) ?_
      refine P_op k20 (.v (.one (.val (.int .i64 (w64 ((w64 (((tab_turns.getD (Int.tmod (w64 ((Int.tmod a2 4) + 4)) 4).toNat default).X) * ((a1.getD x15.toNat default).X))) - (w64 (((tab_turns.getD (Int.tmod (w64 ((Int.tmod a2 4) + 4)) 4).toNat default).Y) * ((a1.getD x15.toNat default).Y))))))))) (by kernel_rfl) ?_
      refine P_op k20 (.v (.one (.bptr 1 0 1))) (by kernel_rfl) ?_
      refine P_op k20 (.v (.one (.val (.int .i64 ((tab_turns.getD (Int.tmod (w64 ((Int.tmod a2 4) + 4)) 4).toNat default).Y))))) (by kernel_rfl) ?_
      refine P_op k20 (.v (.one (.bptr 3 0 0))) (by kernel_rfl) ?_
      refine P_op k20 (.v (.one (.val (.int .i64 ((a1.getD x15.toNat default).X))))) (by kernel_rfl) ?_
      refine P_op k20 (.v (.one (.val (.int .i64 (w64 (((tab_turns.getD (Int.tmod (w64 ((Int.tmod a2 4) + 4)) 4).toNat default).Y) * ((a1.getD x15.toNat default).X))))))) (by kernel_rfl) ?_
      refine P_op k20 (.v (.one (.bptr 1 0 0))) (by kernel_rfl) ?_
      refine P_op k20 (.v (.one (.val (.int .i64 ((tab_turns.getD (Int.tmod (w64 ((Int.tmod a2 4) + 4)) 4).toNat default).X))))) (by kernel_rfl) ?_
      refine P_op k20 (.v (.one (.bptr 3 0 1))) (by kernel_rfl) ?_
      refine P_op k20 (.v (.one (.val (.int .i64 ((a1.getD x15.toNat default).Y))))) (by kernel_rfl) ?_
      refine P_op k20 (.v (.one (.val (.int .i64 (w64 (((tab_turns.getD (Int.tmod (w64 ((Int.tmod a2 4) + 4)) 4).toNat default).X) * ((a1.getD x15.toNat default).Y))))))) (by kernel_rfl) ?_
      refine P_op k20 (.v (.one (.val (.int .i64 (w64 ((w64 (((tab_turns.getD (Int.tmod (w64 ((Int.tmod a2 4) + 4)) 4).toNat default).Y) * ((a1.getD x15.toNat default).X))) + (w64 (((tab_turns.getD (Int.tmod (w64 ((Int.tmod a2 4) + 4)) 4).toNat default).X) * ((a1.getD x15.toNat default).Y))))))))) (by kernel_rfl) ?_
      refine P_op k20 (.v (.agg [.val (.int .i64 (w64 ((w64 (((tab_turns.getD (Int.tmod (w64 ((Int.tmod a2 4) + 4)) 4).toNat default).X) * ((a1.getD x15.toNat default).X))) - (w64 (((tab_turns.getD (Int.tmod (w64 ((Int.tmod a2 4) + 4)) 4).toNat default).Y) * ((a1.getD x15.toNat default).Y)))))), .val (.int .i64 (w64 ((w64 (((tab_turns.getD (Int.tmod (w64 ((Int.tmod a2 4) + 4)) 4).toNat default).Y) * ((a1.getD x15.toNat default).X))) + (w64 (((tab_turns.getD (Int.tmod (w64 ((Int.tmod a2 4) + 4)) 4).toNat default).X) * ((a1.getD x15.toNat default).Y))))))])) (by kernel_rfl) ?_
      obtain ⟨g21, hm⟩ := bif_n hm
      refine P_opc k20 (.v (.one (.rptr 2 0 2 x15.toNat 0))) (0 ≤ x15 ∧ x15 < ((l14.length : Nat) : Int)) (by kernel_rfl) (inb_of g21) ?_
      refine P_write k20 ([(2, (0, .row 38 2 l14.length (rowf e_Point default (l14.set x15.toNat (Point.mk (w64 ((w64 (((tab_turns.getD (Int.tmod (w64 ((Int.tmod a2 4) + 4)) 4).toNat default).X) * ((a1.getD x15.toNat default).X))) - (w64 (((tab_turns.getD (Int.tmod (w64 ((Int.tmod a2 4) + 4)) 4).toNat default).Y) * ((a1.getD x15.toNat default).Y))))) (w64 ((w64 (((tab_turns.getD (Int.tmod (w64 ((Int.tmod a2 4) + 4)) 4).toNat default).Y) * ((a1.getD x15.toNat default).X))) + (w64 (((tab_turns.getD (Int.tmod (w64 ((Int.tmod a2 4) + 4)) 4).toNat default).X) * ((a1.getD x15.toNat default).Y))))))))))]) (.undef) (by kernel_rfl) (Step_store_row 38 (.tmp 53) (.tmp 52) 2 0 2 x15.toNat 0 38 l14.length (rowf e_Point default l14) (rowf e_Point default (l14.set x15.toNat (Point.mk (w64 ((w64 (((tab_turns.getD (Int.tmod (w64 ((Int.tmod a2 4) + 4)) 4).toNat default).X) * ((a1.getD x15.toNat default).X))) - (w64 (((tab_turns.getD (Int.tmod (w64 ((Int.tmod a2 4) + 4)) 4).toNat default).Y) * ((a1.getD x15.toNat default).Y))))) (w64 ((w64 (((tab_turns.getD (Int.tmod (w64 ((Int.tmod a2 4) + 4)) 4).toNat default).Y) * ((a1.getD x15.toNat default).X))) + (w64 (((tab_turns.getD (Int.tmod (w64 ((Int.tmod a2 4) + 4)) 4).toNat default).X) * ((a1.getD x15.toNat default).Y)))))))) (.agg [.val (.int .i64 (w64 ((w64 (((tab_turns.getD (Int.tmod (w64 ((Int.tmod a2 4) + 4)) 4).toNat default).X) * ((a1.getD x15.toNat default).X))) - (w64 (((tab_turns.getD (Int.tmod (w64 ((Int.tmod a2 4) + 4)) 4).toNat default).Y) * ((a1.getD x15.toNat default).Y)))))), .val (.int .i64 (w64 ((w64 (((tab_turns.getD (Int.tmod (w64 ((Int.tmod a2 4) + 4)) 4).toNat default).Y) * ((a1.getD x15.toNat default).X))) + (w64 (((tab_turns.getD (Int.tmod (w64 ((Int.tmod a2 4) + 4)) 4).toNat default).X) * ((a1.getD x15.toNat default).Y))))))]) (by kernel_rfl) (by kernel_rfl) (by kernel_rfl) (by kernel_rfl) (by kernel_rfl) (by kernel_rfl) (by kernel_rfl) (by kernel_rfl) (toNat_lt (inb_of g21)) (rowf_set e_Point default (Point.mk (w64 ((w64 (((tab_turns.getD (Int.tmod (w64 ((Int.tmod a2 4) + 4)) 4).toNat default).X) * ((a1.getD x15.toNat default).X))) - (w64 (((tab_turns.getD (Int.tmod (w64 ((Int.tmod a2 4) + 4)) 4).toNat default).Y) * ((a1.getD x15.toNat default).Y))))) (w64 ((w64 (((tab_turns.getD (Int.tmod (w64 ((Int.tmod a2 4) + 4)) 4).toNat default).Y) * ((a1.getD x15.toNat default).X))) + (w64 (((tab_turns.getD (Int.tmod (w64 ((Int.tmod a2 4) + 4)) 4).toNat default).X) * ((a1.getD x15.toNat default).Y)))))) l14 l14.length x15.toNat 0 [.val (.int .i64 (w64 ((w64 (((tab_turns.getD (Int.tmod (w64 ((Int.tmod a2 4) + 4)) 4).toNat default).X) * ((a1.getD x15.toNat default).X))) - (w64 (((tab_turns.getD (Int.tmod (w64 ((Int.tmod a2 4) + 4)) 4).toNat default).Y) * ((a1.getD x15.toNat default).Y)))))), .val (.int .i64 (w64 ((w64 (((tab_turns.getD (Int.tmod (w64 ((Int.tmod a2 4) + 4)) 4).toNat default).Y) * ((a1.getD x15.toNat default).X))) + (w64 (((tab_turns.getD (Int.tmod (w64 ((Int.tmod a2 4) + 4)) 4).toNat default).X) * ((a1.getD x15.toNat default).Y))))))] rfl (by kernel_rfl))) ?_
      refine HOps_end (by kernel_rfl) ?_
      refine R_region 9 (rg Tryd.f35 [1, 1, 1, 1, 0, 1, 0, 0, 1, 1, 1]) (by kernel_rfl) ?_
      have k22 : opsOk 56 (rg Tryd.f35 [1, 1, 1, 1, 0, 1, 0, 0, 1, 1, 1]) = true := by kernel_rfl
      refine P_op k22 (.v (.one (.val (.int .i64 (w64 (x15 + 1)))))) (by kernel_rfl) ?_
      refine P_op k22 (.v (.one (.val (.int .i64 (w64 (x15 + 1)))))) (by kernel_rfl) ?_
      refine HOps_end (by kernel_rfl) ?_
      exact HL_enter (poly_Turn_L1_S a1 a2 (l14.set x15.toNat (Point.mk (w64 ((w64 (((tab_turns.getD (Int.tmod (w64 ((Int.tmod a2 4) + 4)) 4).toNat default).X) * ((a1.getD x15.toNat default).X))) - (w64 (((tab_turns.getD (Int.tmod (w64 ((Int.tmod a2 4) + 4)) 4).toNat default).Y) * ((a1.getD x15.toNat default).Y))))) (w64 ((w64 (((tab_turns.getD (Int.tmod (w64 ((Int.tmod a2 4) + 4)) 4).toNat default).Y) * ((a1.getD x15.toNat default).X))) + (w64 (((tab_turns.getD (Int.tmod (w64 ((Int.tmod a2 4) + 4)) 4).toNat default).X) * ((a1.getD x15.toNat default).Y))))))) l14.length (w64 (x15 + 1))) (by kernel_rfl) (by kernel_rfl) (ih (l14.set x15.toNat (Point.mk (w64 ((w64 (((tab_turns.getD (Int.tmod (w64 ((Int.tmod a2 4) + 4)) 4).toNat default).X) * ((a1.getD x15.toNat default).X))) - (w64 (((tab_turns.getD (Int.tmod (w64 ((Int.tmod a2 4) + 4)) 4).toNat default).Y) * ((a1.getD x15.toNat default).Y))))) (w64 ((w64 (((tab_turns.getD (Int.tmod (w64 ((Int.tmod a2 4) + 4)) 4).toNat default).Y) * ((a1.getD x15.toNat default).X))) + (w64 (((tab_turns.getD (Int.tmod (w64 ((Int.tmod a2 4) + 4)) 4).toNat default).X) * ((a1.getD x15.toNat default).Y))))))) l14.length (w64 (x15 + 1)) _ (len_set rfl) hm)
    · replace hm := bif_f b17 hm
      refine R_exit 0 (by kernel_rfl) ?_
      obtain rfl := Option.some.inj hm
      exact L0_mk (by kernel_rfl) (by kernel_rfl)

set_option maxRecDepth 100000 in
theorem poly_Turn_ok (a1 : List Point) (a2 : Int) (r : (List Point)) (hm : poly_Turn a1 a2 = some r) : Ct Tryd.prog globs 35 [.one (tl e_Point default a1), .one (.val (.int .i64 a2))] (poly_Turn_x r) (poly_Turn_o r) := by
  unfold poly_Turn at hm
  refine Ct_of_H (fn := Tryd.f35) (c := nd Tryd.f35 []) mixed (by kernel_rfl) (by kernel_rfl) (by kernel_rfl) fun w A hg => ?_
  show H ({ P := Tryd.prog, w0 := w, nt := 56, A := A, globs := globs, mixed := mixed, glob := hg } : Ctx) _ _ _
  refine R_seq (nd Tryd.f35 [0]) (nd Tryd.f35 [1]) (by kernel_rfl) ?_
  refine R_region 0 (rg Tryd.f35 [0]) (by kernel_rfl) ?_
  have k3 : opsOk 56 (rg Tryd.f35 [0]) = true := by kernel_rfl
  refine P_op k3 (.v (.one (.emp))) (by kernel_rfl) ?_
  refine HOps_end (by kernel_rfl) ?_
  refine R_seq (nd Tryd.f35 [1, 0]) (nd Tryd.f35 [1, 1]) (by kernel_rfl) ?_
  refine R_seq (nd Tryd.f35 [1, 0, 0]) (nd Tryd.f35 [1, 0, 1]) (by kernel_rfl) ?_
  refine R_region 1 (rg Tryd.f35 [1, 0, 0]) (by kernel_rfl) ?_
  have k4 : opsOk 56 (rg Tryd.f35 [1, 0, 0]) = true := by kernel_rfl
  refine P_op k4 (.v (.one (tl e_Point default a1))) (by kernel_rfl) ?_
  obtain ⟨v5, h6, hm⟩ := bind_s hm
  refine P_step k4 (obNv 1 (poly_canTurn_o v5)) (obSh 1 (poly_canTurn_o v5)) ((poly_canTurn_x v5).sh 1) (by kernel_rfl) (Step_call (x := poly_canTurn_x v5) (ob := poly_canTurn_o v5) (f := 41) (args := [(.tmp 9)]) (fn := Tryd.f41) (ys := [.one (tl e_Point default a1)]) 1 (by kernel_rfl) (by kernel_rfl) (by kernel_rfl) (by kernel_rfl) (by kernel_rfl) (by kernel_rfl) rfl (poly_canTurn_ok a1 v5 h6) (by kernel_rfl) (by kernel_rfl)) ?_
  refine P_op k4 (.v (.one (.val (.bool (!v5))))) (by kernel_rfl) ?_
  refine HOps_end (by kernel_rfl) ?_
  refine R_cond (.tmp 11) (nd Tryd.f35 [1, 0, 1, 0]) (nd Tryd.f35 [1, 0, 1, 1]) (by kernel_rfl) (!v5) (by kernel_rfl) (fun b7 => ?_) (fun b7 => ?_)
  · replace hm := bif_t b7 hm
    refine R_seq (nd Tryd.f35 [1, 0, 1, 0, 0]) (nd Tryd.f35 [1, 0, 1, 0, 1]) (by kernel_rfl) ?_
    refine R_region 2 (rg Tryd.f35 [1, 0, 1, 0, 0]) (by kernel_rfl) ?_
    have k8 : opsOk 56 (rg Tryd.f35 [1, 0, 1, 0, 0]) = true := by kernel_rfl
    refine P_op k8 (.v (.one (.emp))) (by kernel_rfl) ?_
    refine HOps_end (by kernel_rfl) ?_
    refine H_own 4 4 38 2 (rowf e_Point default ([] : List Point)) (by kernel_rfl) ?_
    obtain rfl := Option.some.inj hm
    refine H_swap 4 0 ?_
    refine R_ret (by kernel_rfl) ?_
    show RetQ _ _ (poly_Turn_x ([] : List Point)) (poly_Turn_o ([] : List Point)) .ret _
    simp only [poly_Turn_x, poly_Turn_o, show ([] : List Point).length = 0 from rfl]
    exact ret_mk (by kernel_rfl) (by kernel_rfl)
  · replace hm := bif_f b7 hm
    refine R_skip (by kernel_rfl) ?_
    refine R_seq (nd Tryd.f35 [1, 1, 0]) (nd Tryd.f35 [1, 1, 1]) (by kernel_rfl) ?_
    refine R_region 3 (rg Tryd.f35 [1, 1, 0]) (by kernel_rfl) ?_
    have k9 : opsOk 56 (rg Tryd.f35 [1, 1, 0]) = true := by kernel_rfl
    refine P_op k9 (.v (.one (.val (.int .i64 a2)))) (by kernel_rfl) ?_
    refine P_opc k9 (.v (.one (.val (.int .i64 (Int.tmod a2 4))))) (4 ≠ (0 : Int)) (by kernel_rfl) (by decide) ?_
    refine P_op k9 (.v (.one (.val (.int .i64 (w64 ((Int.tmod a2 4) + 4)))))) (by kernel_rfl) ?_
    refine P_opc k9 (.v (.one (.val (.int .i64 (Int.tmod (w64 ((Int.tmod a2 4) + 4)) 4))))) (4 ≠ (0 : Int)) (by kernel_rfl) (by decide) ?_
    obtain ⟨g10, hm⟩ := bif_n hm
    refine P_opc k9 (.v (.one (.lptr (e_Point (tab_turns.getD (Int.tmod (w64 ((Int.tmod a2 4) + 4)) 4).toNat default))))) (0 ≤ (Int.tmod (w64 ((Int.tmod a2 4) + 4)) 4) ∧ (Int.tmod (w64 ((Int.tmod a2 4) + 4)) 4) < ((4 : Nat) : Int)) (by kernel_rfl) (inb_of g10) ?_
    refine P_op k9 (.v (.agg [.val (.int .i64 ((tab_turns.getD (Int.tmod (w64 ((Int.tmod a2 4) + 4)) 4).toNat default).X)), .val (.int .i64 ((tab_turns.getD (Int.tmod (w64 ((Int.tmod a2 4) + 4)) 4).toNat default).Y))])) (by kernel_rfl) ?_
    refine P_step k9 ([(1, 0)]) ([(1, (0, .box 38 [.val (.int .i64 0), .val (.int .i64 0)]))]) (.v (.one (.bptr 1 0 0))) (by kernel_rfl) (Step_alloc 38 1 0 [.val (.int .i64 0), .val (.int .i64 0)] (by kernel_rfl) (by kernel_rfl) (by kernel_rfl)) ?_
    refine P_write k9 ([(1, (0, .box 38 [.val (.int .i64 ((tab_turns.getD (Int.tmod (w64 ((Int.tmod a2 4) + 4)) 4).toNat default).X)), .val (.int .i64 ((tab_turns.getD (Int.tmod (w64 ((Int.tmod a2 4) + 4)) 4).toNat default).Y))]))]) (.undef) (by kernel_rfl) (Step_store_box 38 (.tmp 5) (.tmp 17) 1 0 0 38 [.val (.int .i64 0), .val (.int .i64 0)] (.agg [.val (.int .i64 ((tab_turns.getD (Int.tmod (w64 ((Int.tmod a2 4) + 4)) 4).toNat default).X)), .val (.int .i64 ((tab_turns.getD (Int.tmod (w64 ((Int.tmod a2 4) + 4)) 4).toNat default).Y))]) [.val (.int .i64 ((tab_turns.getD (Int.tmod (w64 ((Int.tmod a2 4) + 4)) 4).toNat default).X)), .val (.int .i64 ((tab_turns.getD (Int.tmod (w64 ((Int.tmod a2 4) + 4)) 4).toNat default).Y))] (by kernel_rfl) (by kernel_rfl) (by kernel_rfl) (by kernel_rfl) (by kernel_rfl) (by kernel_rfl) (by kernel_rfl) (by kernel_rfl)) ?_
    refine HOps_end (by kernel_rfl) ?_
    refine R_seq (nd Tryd.f35 [1, 1, 1, 0]) (nd Tryd.f35 [1, 1, 1, 1]) (by kernel_rfl) ?_
    refine R_region 4 (rg Tryd.f35 [1, 1, 1, 0]) (by kernel_rfl) ?_
    have k11 : opsOk 56 (rg Tryd.f35 [1, 1, 1, 0]) = true := by kernel_rfl
    refine P_op k11 (.v (.one (tl e_Point default a1))) (by kernel_rfl) ?_
    refine P_op k11 (.v (.one (.val (.int .i64 ((a1.length : Nat) : Int))))) (by kernel_rfl) ?_
    obtain ⟨g12, hm⟩ := bif_n hm
    refine P_step k11 ([(2, 0)]) ([(2, (0, .row 38 2 (((a1.length : Nat) : Int).toNat) (rowf e_Point default (List.replicate (((a1.length : Nat) : Int).toNat) (Point.mk 0 0)))))]) (.v (.one (.own 2 0 2 (((a1.length : Nat) : Int).toNat)))) (by kernel_rfl) (Step_make 34 38 (.tmp 19) (.tmp 19) 2 0 .i64 .i64 ((a1.length : Nat) : Int) Tryd.t38 [.val (.int .i64 0), .val (.int .i64 0)] (by kernel_rfl) (by kernel_rfl) (by kernel_rfl) (by kernel_rfl) (by kernel_rfl) (by kernel_rfl) (by kernel_rfl) (by kernel_rfl) (by kernel_rfl) (mkOk_of g12).1 (mkOk_of g12).2.1 (mkOk_of g12).2.2 (rowf e_Point default (List.replicate (((a1.length : Nat) : Int).toNat) (Point.mk 0 0))) (rowf_rep e_Point default (Point.mk 0 0) (((a1.length : Nat) : Int).toNat) [.val (.int .i64 0), .val (.int .i64 0)] (by kernel_rfl))) ?_
    refine P_op k11 (.v (.one (.own 2 0 2 (((a1.length : Nat) : Int).toNat)))) (by kernel_rfl) ?_
    refine HOps_end (by kernel_rfl) ?_
    refine R_seq (nd Tryd.f35 [1, 1, 1, 1, 0]) (nd Tryd.f35 [1, 1, 1, 1, 1]) (by kernel_rfl) ?_
    refine R_seq (nd Tryd.f35 [1, 1, 1, 1, 0, 0]) (nd Tryd.f35 [1, 1, 1, 1, 0, 1]) (by kernel_rfl) ?_
    refine R_region 5 (rg Tryd.f35 [1, 1, 1, 1, 0, 0]) (by kernel_rfl) ?_
    have k13 : opsOk 56 (rg Tryd.f35 [1, 1, 1, 1, 0, 0]) = true := by kernel_rfl
    refine P_op k13 (.v (.one (tl e_Point default a1))) (by kernel_rfl) ?_
    refine P_op k13 (.v (.one (.val (.int .i64 ((a1.length : Nat) : Int))))) (by kernel_rfl) ?_
    refine P_op k13 (.v (.one (.val (.int .i64 0)))) (by kernel_rfl) ?_
    refine HOps_end (by kernel_rfl) ?_
    obtain ⟨o24, h25, hm⟩ := bind_s hm
    refine R_loop0 (nd Tryd.f35 [1, 1, 1, 1, 0, 1, 0, 0]) 0 (by kernel_rfl) FUEL (fun o => poly_Turn_L1_T o) o24 (HL_enter (poly_Turn_L1_S a1 a2 (List.replicate (((a1.length : Nat) : Int).toNat) (Point.mk 0 0)) (((a1.length : Nat) : Int).toNat) 0) (by kernel_rfl) (by kernel_rfl) (poly_Turn_L1_ok w A hg a1 a2 FUEL (List.replicate (((a1.length : Nat) : Int).toNat) (Point.mk 0 0)) (((a1.length : Nat) : Int).toNat) 0 o24 len_rep h25)) ?_
    refine R_seq (nd Tryd.f35 [1, 1, 1, 1, 1, 0]) (nd Tryd.f35 [1, 1, 1, 1, 1, 1]) (by kernel_rfl) ?_
    refine R_region 10 (rg Tryd.f35 [1, 1, 1, 1, 1, 0]) (by kernel_rfl) ?_
    have k26 : opsOk 56 (rg Tryd.f35 [1, 1, 1, 1, 1, 0]) = true := by kernel_rfl
    refine P_op k26 (.v (.one (.own 2 0 2 o24.length))) (by kernel_rfl) ?_
    refine P_op k26 (.v (.one (.own 2 0 2 o24.length))) (by kernel_rfl) ?_
    refine HOps_end (by kernel_rfl) ?_
    obtain rfl := Option.some.inj hm
    refine H_swap 2 0 ?_
    refine R_ret (by kernel_rfl) ?_
    exact ret_mk (by kernel_rfl) (by kernel_rfl)

end Saw
end Go.SL

namespace Go.SL
namespace Saw
open Go.Proofs
set_option maxHeartbeats 4000000

def ring_Turn_x (r : Ring) : V := .v (.agg [.val (.int .i64 r.Z), .own 0 0 3 r.Read.length])

def ring_Turn_o (r : Ring) : List (Nat × (Nat × O)) := [(0, (0, .row 44 3 r.Read.length (rowf e_Reading default r.Read)))]

theorem ring_Turn_f (r : Ring) : Frozen (ring_Turn_o r) := by
  intro i k o h
  unfold ring_Turn_o at h
  rw [look_cons] at h
  split at h
  · cases h; exact fun _ _ => rfl
  · cases h

def ring_Turn_L1_S (a1 : Ring) (a2 : Int) (v5 : Ring) (l15 : List Point) (l15n : Nat) (x16 : Int) : St :=
  { slots := [(1, .v (.one (.val (.int .i64 a2)))), (4, .v (.one (.bptr 2 0 0))), (5, .v (.one (.bptr 4 0 0))), (6, .v (.one (.own 5 0 2 l15n))), (22, .v (.one (tl e_Reading default a1.Read))), (23, .v (.one (.val (.int .i64 ((a1.Read.length : Nat) : Int))))), (24, .v (.one (.val (.int .i64 x16))))], objs := [(2, (0, .box 24 [.val (.int .i64 0), .emp])), (3, (0, .row 44 3 v5.Read.length (rowf e_Reading default v5.Read))), (4, (0, .box 24 [.val (.int .i64 v5.Z), .own 3 0 3 v5.Read.length])), (5, (0, .row 38 2 l15n (rowf e_Point default l15)))] }

def ring_Turn_L1_T (a2 : Int) (v5 : Ring) (l24 : List Point) : St :=
  { slots := [(1, .v (.one (.val (.int .i64 a2)))), (4, .v (.one (.bptr 2 0 0))), (5, .v (.one (.bptr 4 0 0))), (6, .v (.one (.own 5 0 2 l24.length)))], objs := [(2, (0, .box 24 [.val (.int .i64 0), .emp])), (3, (0, .row 44 3 v5.Read.length (rowf e_Reading default v5.Read))), (4, (0, .box 24 [.val (.int .i64 v5.Z), .own 3 0 3 v5.Read.length])), (5, (0, .row 38 2 l24.length (rowf e_Point default l24)))] }

def ring_Turn_L2_S (v5 : Ring) (v28 : (List Point)) (x30 : Int) (l31 : List Reading) (l31n : Nat) : St :=
  { slots := [(4, .v (.one (.bptr 2 0 0))), (5, .v (.one (.bptr 4 0 0))), (37, .v (.one (.own 7 0 2 v28.length))), (38, .v (.one (.val (.int .i64 ((v28.length : Nat) : Int))))), (39, .v (.one (.val (.int .i64 x30))))], objs := [(2, (0, .box 24 [.val (.int .i64 0), .emp])), (3, (0, .row 44 3 l31n (rowf e_Reading default l31))), (4, (0, .box 24 [.val (.int .i64 v5.Z), .own 3 0 3 l31n])), (7, (0, .row 38 2 v28.length (rowf e_Point default v28)))] }

def ring_Turn_L2_T (v5 : Ring) (l39 : List Reading) : St :=
  { slots := [(4, .v (.one (.bptr 2 0 0))), (5, .v (.one (.bptr 4 0 0)))], objs := [(2, (0, .box 24 [.val (.int .i64 0), .emp])), (3, (0, .row 44 3 l39.length (rowf e_Reading default l39))), (4, (0, .box 24 [.val (.int .i64 v5.Z), .own 3 0 3 l39.length]))] }

set_option maxRecDepth 100000 in
theorem ring_Turn_L1_ok (w : World) (A : Nat → Prop) (hg : Globs globs w A) (a1 : Ring) (a2 : Int) (v5 : Ring) : ∀ (n : Nat) (l15 : List Point) (l15n : Nat) (x16 : Int) (res : (List Point)), l15.length = l15n → ring_Turn_L1 a1 n l15 x16 = some res → HL ({ P := Tryd.prog, w0 := w, nt := 52, A := A, globs := globs, mixed := mixed, glob := hg } : Ctx) (nd Tryd.f19 [1, 1, 1, 1, 0, 1, 0, 0]) (loopQ0 0 (fun o => ring_Turn_L1_T a2 v5 o) res) n (ring_Turn_L1_S a1 a2 v5 l15 l15n x16) := by
  intro n
  induction n with
  | zero =>
    intro l15 l15n x16 res hl0 hm
    cases hm
  | succ n ih =>
    intro l15 l15n x16 res hl0 hm
    subst hl0
    refine HL_succ ?_
    refine R_seq (nd Tryd.f19 [1, 1, 1, 1, 0, 1, 0, 0, 0]) (nd Tryd.f19 [1, 1, 1, 1, 0, 1, 0, 0, 1]) (by kernel_rfl) ?_
    refine R_region 6 (rg Tryd.f19 [1, 1, 1, 1, 0, 1, 0, 0, 0]) (by kernel_rfl) ?_
    have k17 : opsOk 52 (rg Tryd.f19 [1, 1, 1, 1, 0, 1, 0, 0, 0]) = true := by kernel_rfl
    refine P_op k17 (.v (.one (.val (.bool (decide (x16 < ((a1.Read.length : Nat) : Int))))))) (by kernel_rfl) ?_
    refine HOps_end (by kernel_rfl) ?_
    refine R_seq (nd Tryd.f19 [1, 1, 1, 1, 0, 1, 0, 0, 1, 0]) (nd Tryd.f19 [1, 1, 1, 1, 0, 1, 0, 0, 1, 1]) (by kernel_rfl) ?_
    refine R_cond (.tmp 25) (nd Tryd.f19 [1, 1, 1, 1, 0, 1, 0, 0, 1, 0, 0]) (nd Tryd.f19 [1, 1, 1, 1, 0, 1, 0, 0, 1, 0, 1]) (by kernel_rfl) (decide (x16 < ((a1.Read.length : Nat) : Int))) (by kernel_rfl) (fun b18 => ?_) (fun b18 => ?_)
    · replace hm := bif_t b18 hm
      refine R_skip (by kernel_rfl) ?_
      refine R_seq (nd Tryd.f19 [1, 1, 1, 1, 0, 1, 0, 0, 1, 1, 0]) (nd Tryd.f19 [1, 1, 1, 1, 0, 1, 0, 0, 1, 1, 1]) (by kernel_rfl) ?_
      refine R_block 1 (nd Tryd.f19 [1, 1, 1, 1, 0, 1, 0, 0, 1, 1, 0, 0]) (by kernel_rfl) ?_
      refine R_seq (nd Tryd.f19 [1, 1, 1, 1, 0, 1, 0, 0, 1, 1, 0, 0, 0]) (nd Tryd.f19 [1, 1, 1, 1, 0, 1, 0, 0, 1, 1, 0, 0, 1]) (by kernel_rfl) ?_
      refine R_region 7 (rg Tryd.f19 [1, 1, 1, 1, 0, 1, 0, 0, 1, 1, 0, 0, 0]) (by kernel_rfl) ?_
      have k19 : opsOk 52 (rg Tryd.f19 [1, 1, 1, 1, 0, 1, 0, 0, 1, 1, 0, 0, 0]) = true := by kernel_rfl
      refine P_op k19 (.v (.one (.val (.int .i64 x16)))) (by kernel_rfl) ?_
      obtain ⟨g20, hm⟩ := bif_n hm
      refine P_opc k19 (.v (.one (.lptr (e_Reading (a1.Read.getD x16.toNat default))))) (0 ≤ x16 ∧ x16 < ((a1.Read.length : Nat) : Int)) (by kernel_rfl) (inb_of g20) ?_
      refine P_op k19 (.v (.agg [.val (.int .i64 (((a1.Read.getD x16.toNat default).P).X)), .val (.int .i64 (((a1.Read.getD x16.toNat default).P).Y)), .val (.bool ((a1.Read.getD x16.toNat default).Ok))])) (by kernel_rfl) ?_
      refine P_step k19 ([(6, 0)]) ([(6, (0, .box 44 [.val (.int .i64 0), .val (.int .i64 0), .val (.bool false)]))]) (.v (.one (.bptr 6 0 0))) (by kernel_rfl) (Step_alloc 44 6 0 [.val (.int .i64 0), .val (.int .i64 0), .val (.bool false)] (by kernel_rfl) (by kernel_rfl) (by kernel_rfl)) ?_
      refine P_op k19 (.v (.one (.val (.int .i64 x16)))) (by kernel_rfl) ?_
      refine P_write k19 ([(6, (0, .box 44 [.val (.int .i64 (((a1.Read.getD x16.toNat default).P).X)), .val (.int .i64 (((a1.Read.getD x16.toNat default).P).Y)), .val (.bool ((a1.Read.getD x16.toNat default).Ok))]))]) (.undef) (by kernel_rfl) (Step_store_box 44 (.tmp 8) (.tmp 28) 6 0 0 44 [.val (.int .i64 0), .val (.int .i64 0), .val (.bool false)] (.agg [.val (.int .i64 (((a1.Read.getD x16.toNat default).P).X)), .val (.int .i64 (((a1.Read.getD x16.toNat default).P).Y)), .val (.bool ((a1.Read.getD x16.toNat default).Ok))]) [.val (.int .i64 (((a1.Read.getD x16.toNat default).P).X)), .val (.int .i64 (((a1.Read.getD x16.toNat default).P).Y)), .val (.bool ((a1.Read.getD x16.toNat default).Ok))] (by kernel_rfl) (by kernel_rfl) (by kernel_rfl) (by kernel_rfl) (by kernel_rfl) (by kernel_rfl) (by kernel_rfl) (by kernel_rfl)) ?_
      refine HOps_end (by kernel_rfl) ?_
      refine R_region 8 (rg Tryd.f19 [1, 1, 1, 1, 0, 1, 0, 0, 1, 1, 0, 0, 1]) (by kernel_rfl) ?_
      have k21 : opsOk 52 (rg Tryd.f19 [1, 1, 1, 1, 0, 1, 0, 0, 1, 1, 0, 0, 1]) = true := by kernel_rfl
      refine P_op k21 (.v (.one (.own 5 0 2 l15.length))) (by kernel_rfl) ?_
      refine P_op k21 (.v (.one (.val (.int .i64 x16)))) (by kernel_rfl) ?_
      refine P_op k21 (.v (.one (.bptr 6 0 0))) (by kernel_rfl) ?_
      refine P_op k21 (.v (.agg [.val (.int .i64 (((a1.Read.getD x16.toNat default).P).X)), .val (.int .i64 (((a1.Read.getD x16.toNat default).P).Y))])) (by kernel_rfl) ?_
      obtain ⟨g22, hm⟩ := bif_n hm
      refine P_opc k21 (.v (.one (.rptr 5 0 2 x16.toNat 0))) (0 ≤ x16 ∧ x16 < ((l15.length : Nat) : Int)) (by kernel_rfl) (inb_of g22) ?_
      refine P_write k21 ([(5, (0, .row 38 2 l15.length (rowf e_Point default (l15.set x16.toNat ((a1.Read.getD x16.toNat default).P)))))]) (.undef) (by kernel_rfl) (Step_store_row 38 (.tmp 33) (.tmp 32) 5 0 2 x16.toNat 0 38 l15.length (rowf e_Point default l15) (rowf e_Point default (l15.set x16.toNat ((a1.Read.getD x16.toNat default).P))) (.agg [.val (.int .i64 (((a1.Read.getD x16.toNat default).P).X)), .val (.int .i64 (((a1.Read.getD x16.toNat default).P).Y))]) (by kernel_rfl) (by kernel_rfl) (by kernel_rfl) (by kernel_rfl) (by kernel_rfl) (by kernel_rfl) (by kernel_rfl) (by kernel_rfl) (toNat_lt (inb_of g22)) (rowf_set e_Point default ((a1.Read.getD x16.toNat default).P) l15 l15.length x16.toNat 0 [.val (.int .i64 (((a1.Read.getD x16.toNat default).P).X)), .val (.int .i64 (((a1.Read.getD x16.toNat default).P).Y))] rfl (by kernel_rfl))) ?_
      refine HOps_end (by kernel_rfl) ?_
      refine R_region 9 (rg Tryd.f19 [1, 1, 1, 1, 0, 1, 0, 0, 1, 1, 1]) (by kernel_rfl) ?_
      have k23 : opsOk 52 (rg Tryd.f19 [1, 1, 1, 1, 0, 1, 0, 0, 1, 1, 1]) = true := by kernel_rfl
      refine P_op k23 (.v (.one (.val (.int .i64 (w64 (x16 + 1)))))) (by kernel_rfl) ?_
      refine P_op k23 (.v (.one (.val (.int .i64 (w64 (x16 + 1)))))) (by kernel_rfl) ?_
      refine HOps_end (by kernel_rfl) ?_
      exact HL_enter (ring_Turn_L1_S a1 a2 v5 (l15.set x16.toNat ((a1.Read.getD x16.toNat default).P)) l15.length (w64 (x16 + 1))) (by kernel_rfl) (by kernel_rfl) (ih (l15.set x16.toNat ((a1.Read.getD x16.toNat default).P)) l15.length (w64 (x16 + 1)) _ (len_set rfl) hm)
    · replace hm := bif_f b18 hm
      refine R_exit 0 (by kernel_rfl) ?_
      obtain rfl := Option.some.inj hm
      exact L0_mk (by kernel_rfl) (by kernel_rfl)

set_option maxRecDepth 100000 in
theorem ring_Turn_L2_ok (w : World) (A : Nat → Prop) (hg : Globs globs w A) (v5 : Ring) (v28 : (List Point)) : ∀ (n : Nat) (x30 : Int) (l31 : List Reading) (l31n : Nat) (res : (List Reading)), l31.length = l31n → ring_Turn_L2 v28 n x30 l31 = some res → HL ({ P := Tryd.prog, w0 := w, nt := 52, A := A, globs := globs, mixed := mixed, glob := hg } : Ctx) (nd Tryd.f19 [1, 1, 1, 1, 1, 0, 1, 0, 0]) (loopQ0 2 (fun o => ring_Turn_L2_T v5 o) res) n (ring_Turn_L2_S v5 v28 x30 l31 l31n) := by
  intro n
  induction n with
  | zero =>
    intro x30 l31 l31n res hl0 hm
    cases hm
  | succ n ih =>
    intro x30 l31 l31n res hl0 hm
    subst hl0
    refine HL_succ ?_
    refine R_seq (nd Tryd.f19 [1, 1, 1, 1, 1, 0, 1, 0, 0, 0]) (nd Tryd.f19 [1, 1, 1, 1, 1, 0, 1, 0, 0, 1]) (by kernel_rfl) ?_
    refine R_region 11 (rg Tryd.f19 [1, 1, 1, 1, 1, 0, 1, 0, 0, 0]) (by kernel_rfl) ?_
    have k32 : opsOk 52 (rg Tryd.f19 [1, 1, 1, 1, 1, 0, 1, 0, 0, 0]) = true := by kernel_rfl
    refine P_op k32 (.v (.one (.val (.bool (decide (x30 < ((v28.length : Nat) : Int))))))) (by kernel_rfl) ?_
    refine HOps_end (by kernel_rfl) ?_
    refine R_seq (nd Tryd.f19 [1, 1, 1, 1, 1, 0, 1, 0, 0, 1, 0]) (nd Tryd.f19 [1, 1, 1, 1, 1, 0, 1, 0, 0, 1, 1]) (by kernel_rfl) ?_
    refine R_cond (.tmp 40) (nd Tryd.f19 [1, 1, 1, 1, 1, 0, 1, 0, 0, 1, 0, 0]) (nd Tryd.f19 [1, 1, 1, 1, 1, 0, 1, 0, 0, 1, 0, 1]) (by kernel_rfl) (decide (x30 < ((v28.length : Nat) : Int))) (by kernel_rfl) (fun b33 => ?_) (fun b33 => ?_)
    · replace hm := bif_t b33 hm
      refine R_skip (by kernel_rfl) ?_
      refine R_seq (nd Tryd.f19 [1, 1, 1, 1, 1, 0, 1, 0, 0, 1, 1, 0]) (nd Tryd.f19 [1, 1, 1, 1, 1, 0, 1, 0, 0, 1, 1, 1]) (by kernel_rfl) ?_
      refine R_block 3 (nd Tryd.f19 [1, 1, 1, 1, 1, 0, 1, 0, 0, 1, 1, 0, 0]) (by kernel_rfl) ?_
      refine R_seq (nd Tryd.f19 [1, 1, 1, 1, 1, 0, 1, 0, 0, 1, 1, 0, 0, 0]) (nd Tryd.f19 [1, 1, 1, 1, 1, 0, 1, 0, 0, 1, 1, 0, 0, 1]) (by kernel_rfl) ?_
      refine R_region 12 (rg Tryd.f19 [1, 1, 1, 1, 1, 0, 1, 0, 0, 1, 1, 0, 0, 0]) (by kernel_rfl) ?_
      have k34 : opsOk 52 (rg Tryd.f19 [1, 1, 1, 1, 1, 0, 1, 0, 0, 1, 1, 0, 0, 0]) = true := by kernel_rfl
      refine P_op k34 (.v (.one (.val (.int .i64 x30)))) (by kernel_rfl) ?_
      obtain ⟨g35, hm⟩ := bif_n hm
      refine P_opc k34 (.v (.one (.rptr 7 0 2 x30.toNat 0))) (0 ≤ x30 ∧ x30 < ((v28.length : Nat) : Int)) (by kernel_rfl) (inb_of g35) ?_
      refine P_opc k34 (.v (.agg [.val (.int .i64 ((v28.getD x30.toNat default).X)), .val (.int .i64 ((v28.getD x30.toNat default).Y))])) (x30.toNat < v28.length) (by kernel_rfl) (toNat_lt (inb_of g35)) ?_
      refine P_step k34 ([(8, 0)]) ([(8, (0, .box 38 [.val (.int .i64 0), .val (.int .i64 0)]))]) (.v (.one (.bptr 8 0 0))) (by kernel_rfl) (Step_alloc 38 8 0 [.val (.int .i64 0), .val (.int .i64 0)] (by kernel_rfl) (by kernel_rfl) (by kernel_rfl)) ?_
      refine P_op k34 (.v (.one (.val (.int .i64 x30)))) (by kernel_rfl) ?_
      refine P_write k34 ([(8, (0, .box 38 [.val (.int .i64 ((v28.getD x30.toNat default).X)), .val (.int .i64 ((v28.getD x30.toNat default).Y))]))]) (.undef) (by kernel_rfl) (Step_store_box 38 (.tmp 10) (.tmp 43) 8 0 0 38 [.val (.int .i64 0), .val (.int .i64 0)] (.agg [.val (.int .i64 ((v28.getD x30.toNat default).X)), .val (.int .i64 ((v28.getD x30.toNat default).Y))]) [.val (.int .i64 ((v28.getD x30.toNat default).X)), .val (.int .i64 ((v28.getD x30.toNat default).Y))] (by kernel_rfl) (by kernel_rfl) (by kernel_rfl) (by kernel_rfl) (by kernel_rfl) (by kernel_rfl) (by kernel_rfl) (by kernel_rfl)) ?_
      refine HOps_end (by kernel_rfl) ?_
      refine R_region 13 (rg Tryd.f19 [1, 1, 1, 1, 1, 0, 1, 0, 0, 1, 1, 0, 0, 1]) (by kernel_rfl) ?_
      have k36 : opsOk 52 (rg Tryd.f19 [1, 1, 1, 1, 1, 0, 1, 0, 0, 1, 1, 0, 0, 1]) = true := by kernel_rfl
      refine P_op k36 (.v (.one (.bptr 4 0 1))) (by kernel_rfl) ?_
      refine P_op k36 (.v (.one (.own 3 0 3 l31.length))) (by kernel_rfl) ?_
      refine P_op k36 (.v (.one (.val (.int .i64 x30)))) (by kernel_rfl) ?_
      refine P_op k36 (.v (.agg [.val (.int .i64 ((v28.getD x30.toNat default).X)), .val (.int .i64 ((v28.getD x30.toNat default).Y))])) (by kernel_rfl) ?_
      obtain ⟨g37, hm⟩ := bif_n hm
      refine P_opc k36 (.v (.one (.rptr 3 0 3 x30.toNat 0))) (0 ≤ x30 ∧ x30 < ((l31.length : Nat) : Int)) (by kernel_rfl) (inb_of g37) ?_
      refine P_op k36 (.v (.one (.rptr 3 0 3 x30.toNat 0))) (by kernel_rfl) ?_
      refine P_write k36 ([(3, (0, .row 44 3 l31.length (rowf e_Reading default (l31.set x30.toNat (Reading.mk (v28.getD x30.toNat default) ((l31.getD x30.toNat default).Ok))))))]) (.undef) (by kernel_rfl) (Step_store_row 38 (.tmp 49) (.tmp 47) 3 0 3 x30.toNat 0 44 l31.length (rowf e_Reading default l31) (rowf e_Reading default (l31.set x30.toNat (Reading.mk (v28.getD x30.toNat default) ((l31.getD x30.toNat default).Ok)))) (.agg [.val (.int .i64 ((v28.getD x30.toNat default).X)), .val (.int .i64 ((v28.getD x30.toNat default).Y))]) (by kernel_rfl) (by kernel_rfl) (by kernel_rfl) (by kernel_rfl) (by kernel_rfl) (by kernel_rfl) (by kernel_rfl) (by kernel_rfl) (toNat_lt (inb_of g37)) (rowf_set e_Reading default (Reading.mk (v28.getD x30.toNat default) ((l31.getD x30.toNat default).Ok)) l31 l31.length x30.toNat 0 [.val (.int .i64 ((v28.getD x30.toNat default).X)), .val (.int .i64 ((v28.getD x30.toNat default).Y))] rfl (by kernel_rfl))) ?_
      refine HOps_end (by kernel_rfl) ?_
      refine R_region 14 (rg Tryd.f19 [1, 1, 1, 1, 1, 0, 1, 0, 0, 1, 1, 1]) (by kernel_rfl) ?_
      have k38 : opsOk 52 (rg Tryd.f19 [1, 1, 1, 1, 1, 0, 1, 0, 0, 1, 1, 1]) = true := by kernel_rfl
      refine P_op k38 (.v (.one (.val (.int .i64 (w64 (x30 + 1)))))) (by kernel_rfl) ?_
      refine P_op k38 (.v (.one (.val (.int .i64 (w64 (x30 + 1)))))) (by kernel_rfl) ?_
      refine HOps_end (by kernel_rfl) ?_
      exact HL_enter (ring_Turn_L2_S v5 v28 (w64 (x30 + 1)) (l31.set x30.toNat (Reading.mk (v28.getD x30.toNat default) ((l31.getD x30.toNat default).Ok))) l31.length) (by kernel_rfl) (by kernel_rfl) (ih (w64 (x30 + 1)) (l31.set x30.toNat (Reading.mk (v28.getD x30.toNat default) ((l31.getD x30.toNat default).Ok))) l31.length _ (len_set rfl) hm)
    · replace hm := bif_f b33 hm
      refine R_exit 2 (by kernel_rfl) ?_
      obtain rfl := Option.some.inj hm
      exact L0_mk (by kernel_rfl) (by kernel_rfl)

set_option maxRecDepth 100000 in
theorem ring_Turn_ok (a1 : Ring) (a2 : Int) (r : Ring) (hm : ring_Turn a1 a2 = some r) : Ct Tryd.prog globs 19 [.agg [.val (.int .i64 a1.Z), tl e_Reading default a1.Read], .one (.val (.int .i64 a2))] (ring_Turn_x r) (ring_Turn_o r) := by
  unfold ring_Turn at hm
  refine Ct_of_H (fn := Tryd.f19) (c := nd Tryd.f19 []) mixed (by kernel_rfl) (by kernel_rfl) (by kernel_rfl) fun w A hg => ?_
  show H ({ P := Tryd.prog, w0 := w, nt := 52, A := A, globs := globs, mixed := mixed, glob := hg } : Ctx) _ _ _
  refine R_seq (nd Tryd.f19 [0]) (nd Tryd.f19 [1]) (by kernel_rfl) ?_
  refine R_region 0 (rg Tryd.f19 [0]) (by kernel_rfl) ?_
  have k3 : opsOk 52 (rg Tryd.f19 [0]) = true := by kernel_rfl
  refine P_step k3 ([(1, 0)]) ([(1, (0, .box 24 [.val (.int .i64 a1.Z), tl e_Reading default a1.Read]))]) (.v (.one (.bptr 1 0 0))) (by kernel_rfl) (Step_box 24 (.tmp 0) 1 0 (.agg [.val (.int .i64 a1.Z), tl e_Reading default a1.Read]) (by kernel_rfl) (by kernel_rfl) (by kernel_rfl)) ?_
  refine P_step k3 ([(2, 0)]) ([(2, (0, .box 24 [.val (.int .i64 0), .emp]))]) (.v (.one (.bptr 2 0 0))) (by kernel_rfl) (Step_alloc 24 2 0 [.val (.int .i64 0), .emp] (by kernel_rfl) (by kernel_rfl) (by kernel_rfl)) ?_
  refine HOps_end (by kernel_rfl) ?_
  refine R_seq (nd Tryd.f19 [1, 0]) (nd Tryd.f19 [1, 1]) (by kernel_rfl) ?_
  refine R_region 1 (rg Tryd.f19 [1, 0]) (by kernel_rfl) ?_
  have k4 : opsOk 52 (rg Tryd.f19 [1, 0]) = true := by kernel_rfl
  refine P_op k4 (.v (.agg [.val (.int .i64 a1.Z), tl e_Reading default a1.Read])) (by kernel_rfl) ?_
  obtain ⟨v5, h6, hm⟩ := bind_s hm
  refine P_step k4 (obNv 3 (ring_clone_o v5)) (obSh 3 (ring_clone_o v5)) ((ring_clone_x v5).sh 3) (by kernel_rfl) (Step_call (x := ring_clone_x v5) (ob := ring_clone_o v5) (f := 30) (args := [(.tmp 11)]) (fn := Tryd.f30) (ys := [.agg [.val (.int .i64 a1.Z), tl e_Reading default a1.Read]]) 3 (by kernel_rfl) (by kernel_rfl) (by kernel_rfl) (by kernel_rfl) (by kernel_rfl) (by kernel_rfl) rfl (ring_clone_ok a1 v5 h6) (by kernel_rfl) (by kernel_rfl)) ?_
  refine P_step k4 ([(4, 0)]) ([(4, (0, .box 24 [.val (.int .i64 0), .emp]))]) (.v (.one (.bptr 4 0 0))) (by kernel_rfl) (Step_alloc 24 4 0 [.val (.int .i64 0), .emp] (by kernel_rfl) (by kernel_rfl) (by kernel_rfl)) ?_
  refine P_write k4 ([(4, (0, .box 24 [.val (.int .i64 v5.Z), .own 3 0 3 v5.Read.length]))]) (.undef) (by kernel_rfl) (Step_store_box 24 (.tmp 5) (.tmp 12) 4 0 0 24 [.val (.int .i64 0), .emp] (.agg [.val (.int .i64 v5.Z), .own 3 0 3 v5.Read.length]) [.val (.int .i64 v5.Z), .own 3 0 3 v5.Read.length] (by kernel_rfl) (by kernel_rfl) (by kernel_rfl) (by kernel_rfl) (by kernel_rfl) (by kernel_rfl) (by kernel_rfl) (by kernel_rfl)) ?_
  refine HOps_end (by kernel_rfl) ?_
  refine R_seq (nd Tryd.f19 [1, 1, 0]) (nd Tryd.f19 [1, 1, 1]) (by kernel_rfl) ?_
  refine R_seq (nd Tryd.f19 [1, 1, 0, 0]) (nd Tryd.f19 [1, 1, 0, 1]) (by kernel_rfl) ?_
  refine R_region 2 (rg Tryd.f19 [1, 1, 0, 0]) (by kernel_rfl) ?_
  have k7 : opsOk 52 (rg Tryd.f19 [1, 1, 0, 0]) = true := by kernel_rfl
  refine P_op k7 (.v (.agg [.val (.int .i64 a1.Z), tl e_Reading default a1.Read])) (by kernel_rfl) ?_
  obtain ⟨v8, h9, hm⟩ := bind_s hm
  refine P_step k7 (obNv 5 (ring_Check_o v8)) (obSh 5 (ring_Check_o v8)) ((ring_Check_x v8).sh 5) (by kernel_rfl) (Step_call (x := ring_Check_x v8) (ob := ring_Check_o v8) (f := 14) (args := [(.tmp 13)]) (fn := Tryd.f14) (ys := [.agg [.val (.int .i64 a1.Z), tl e_Reading default a1.Read]]) 5 (by kernel_rfl) (by kernel_rfl) (by kernel_rfl) (by kernel_rfl) (by kernel_rfl) (by kernel_rfl) rfl (ring_Check_ok a1 v8 h9) (by kernel_rfl) (by kernel_rfl)) ?_
  refine P_op k7 (.v (.one (.val (.bool (v8 != 0))))) (by kernel_rfl) ?_
  refine HOps_end (by kernel_rfl) ?_
  refine R_cond (.tmp 15) (nd Tryd.f19 [1, 1, 0, 1, 0]) (nd Tryd.f19 [1, 1, 0, 1, 1]) (by kernel_rfl) (v8 != 0) (by kernel_rfl) (fun b10 => ?_) (fun b10 => ?_)
  · replace hm := bif_t b10 hm
    refine R_seq (nd Tryd.f19 [1, 1, 0, 1, 0, 0]) (nd Tryd.f19 [1, 1, 0, 1, 0, 1]) (by kernel_rfl) ?_
    refine R_region 3 (rg Tryd.f19 [1, 1, 0, 1, 0, 0]) (by kernel_rfl) ?_
    have k11 : opsOk 52 (rg Tryd.f19 [1, 1, 0, 1, 0, 0]) = true := by kernel_rfl
    refine P_op k11 (.v (.agg [.val (.int .i64 v5.Z), .own 3 0 3 v5.Read.length])) (by kernel_rfl) ?_
    refine P_write k11 ([(2, (0, .box 24 [.val (.int .i64 v5.Z), .own 3 0 3 v5.Read.length]))]) (.undef) (by kernel_rfl) (Step_store_box 24 (.tmp 4) (.tmp 16) 2 0 0 24 [.val (.int .i64 0), .emp] (.agg [.val (.int .i64 v5.Z), .own 3 0 3 v5.Read.length]) [.val (.int .i64 v5.Z), .own 3 0 3 v5.Read.length] (by kernel_rfl) (by kernel_rfl) (by kernel_rfl) (by kernel_rfl) (by kernel_rfl) (by kernel_rfl) (by kernel_rfl) (by kernel_rfl)) ?_
    refine HOps_end (by kernel_rfl) ?_
    obtain rfl := Option.some.inj hm
    refine H_swap 3 0 ?_
    refine R_ret (by kernel_rfl) ?_
    exact ret_mk (by kernel_rfl) (by kernel_rfl)
  · replace hm := bif_f b10 hm
    refine R_skip (by kernel_rfl) ?_
    refine R_seq (nd Tryd.f19 [1, 1, 1, 0]) (nd Tryd.f19 [1, 1, 1, 1]) (by kernel_rfl) ?_
    refine R_region 4 (rg Tryd.f19 [1, 1, 1, 0]) (by kernel_rfl) ?_
    have k12 : opsOk 52 (rg Tryd.f19 [1, 1, 1, 0]) = true := by kernel_rfl
    refine P_op k12 (.v (.one (.bptr 1 0 1))) (by kernel_rfl) ?_
    refine P_op k12 (.v (.one (tl e_Reading default a1.Read))) (by kernel_rfl) ?_
    refine P_op k12 (.v (.one (.val (.int .i64 ((a1.Read.length : Nat) : Int))))) (by kernel_rfl) ?_
    obtain ⟨g13, hm⟩ := bif_n hm
    refine P_step k12 ([(5, 0)]) ([(5, (0, .row 38 2 (((a1.Read.length : Nat) : Int).toNat) (rowf e_Point default (List.replicate (((a1.Read.length : Nat) : Int).toNat) (Point.mk 0 0)))))]) (.v (.one (.own 5 0 2 (((a1.Read.length : Nat) : Int).toNat)))) (by kernel_rfl) (Step_make 34 38 (.tmp 19) (.tmp 19) 5 0 .i64 .i64 ((a1.Read.length : Nat) : Int) Tryd.t38 [.val (.int .i64 0), .val (.int .i64 0)] (by kernel_rfl) (by kernel_rfl) (by kernel_rfl) (by kernel_rfl) (by kernel_rfl) (by kernel_rfl) (by kernel_rfl) (by kernel_rfl) (by kernel_rfl) (mkOk_of g13).1 (mkOk_of g13).2.1 (mkOk_of g13).2.2 (rowf e_Point default (List.replicate (((a1.Read.length : Nat) : Int).toNat) (Point.mk 0 0))) (rowf_rep e_Point default (Point.mk 0 0) (((a1.Read.length : Nat) : Int).toNat) [.val (.int .i64 0), .val (.int .i64 0)] (by kernel_rfl))) ?_
    refine P_op k12 (.v (.one (.own 5 0 2 (((a1.Read.length : Nat) : Int).toNat)))) (by kernel_rfl) ?_
    refine HOps_end (by kernel_rfl) ?_
    refine R_seq (nd Tryd.f19 [1, 1, 1, 1, 0]) (nd Tryd.f19 [1, 1, 1, 1, 1]) (by kernel_rfl) ?_
    refine R_seq (nd Tryd.f19 [1, 1, 1, 1, 0, 0]) (nd Tryd.f19 [1, 1, 1, 1, 0, 1]) (by kernel_rfl) ?_
    refine R_region 5 (rg Tryd.f19 [1, 1, 1, 1, 0, 0]) (by kernel_rfl) ?_
    have k14 : opsOk 52 (rg Tryd.f19 [1, 1, 1, 1, 0, 0]) = true := by kernel_rfl
    refine P_op k14 (.v (.one (.bptr 1 0 1))) (by kernel_rfl) ?_
    refine P_op k14 (.v (.one (tl e_Reading default a1.Read))) (by kernel_rfl) ?_
    refine P_op k14 (.v (.one (.val (.int .i64 ((a1.Read.length : Nat) : Int))))) (by kernel_rfl) ?_
    refine P_op k14 (.v (.one (.val (.int .i64 0)))) (by kernel_rfl) ?_
    refine HOps_end (by kernel_rfl) ?_
    obtain ⟨o25, h26, hm⟩ := bind_s hm
    refine R_loop0 (nd Tryd.f19 [1, 1, 1, 1, 0, 1, 0, 0]) 0 (by kernel_rfl) FUEL (fun o => ring_Turn_L1_T a2 v5 o) o25 (HL_enter (ring_Turn_L1_S a1 a2 v5 (List.replicate (((a1.Read.length : Nat) : Int).toNat) (Point.mk 0 0)) (((a1.Read.length : Nat) : Int).toNat) 0) (by kernel_rfl) (by kernel_rfl) (ring_Turn_L1_ok w A hg a1 a2 v5 FUEL (List.replicate (((a1.Read.length : Nat) : Int).toNat) (Point.mk 0 0)) (((a1.Read.length : Nat) : Int).toNat) 0 o25 len_rep h26)) ?_
    refine R_seq (nd Tryd.f19 [1, 1, 1, 1, 1, 0]) (nd Tryd.f19 [1, 1, 1, 1, 1, 1]) (by kernel_rfl) ?_
    refine R_seq (nd Tryd.f19 [1, 1, 1, 1, 1, 0, 0]) (nd Tryd.f19 [1, 1, 1, 1, 1, 0, 1]) (by kernel_rfl) ?_
    refine R_region 10 (rg Tryd.f19 [1, 1, 1, 1, 1, 0, 0]) (by kernel_rfl) ?_
    have k27 : opsOk 52 (rg Tryd.f19 [1, 1, 1, 1, 1, 0, 0]) = true := by kernel_rfl
    refine P_op k27 (.v (.one (.own 5 0 2 o25.length))) (by kernel_rfl) ?_
    refine P_op k27 (.v (.one (.val (.int .i64 a2)))) (by kernel_rfl) ?_
    obtain ⟨v28, h29, hm⟩ := bind_s hm
    refine P_step k27 (obNv 7 (poly_Turn_o v28)) (obSh 7 (poly_Turn_o v28)) ((poly_Turn_x v28).sh 7) (by kernel_rfl) (Step_call_own (x := poly_Turn_x v28) (ob := poly_Turn_o v28) (f := 35) (args := [(.tmp 35), (.tmp 36)]) (fn := Tryd.f35) (ys := [.one (.own 5 0 2 o25.length), .one (.val (.int .i64 a2))]) (zs := [.one (.lst o25.length (rowf e_Point default o25)), .one (.val (.int .i64 a2))]) (p := (o25.length ≤ o25.length ∧ (True ∧ True))) 7 (by kernel_rfl) (by kernel_rfl) (by kernel_rfl) (by kernel_rfl) (by kernel_rfl) (by kernel_rfl) ⟨(Nat.le_refl _), ⟨trivial, trivial⟩⟩ rfl (poly_Turn_ok o25 a2 v28 h29) (by kernel_rfl) (by kernel_rfl) (by kernel_rfl) (poly_Turn_f v28)) ?_
    refine P_op k27 (.v (.one (.val (.int .i64 ((v28.length : Nat) : Int))))) (by kernel_rfl) ?_
    refine P_op k27 (.v (.one (.val (.int .i64 0)))) (by kernel_rfl) ?_
    refine HOps_end (by kernel_rfl) ?_
    obtain ⟨o40, h41, hm⟩ := bind_s hm
    refine R_loop0 (nd Tryd.f19 [1, 1, 1, 1, 1, 0, 1, 0, 0]) 2 (by kernel_rfl) FUEL (fun o => ring_Turn_L2_T v5 o) o40 (HL_enter (ring_Turn_L2_S v5 v28 0 v5.Read v5.Read.length) (by kernel_rfl) (by kernel_rfl) (ring_Turn_L2_ok w A hg v5 v28 FUEL 0 v5.Read v5.Read.length o40 rfl h41)) ?_
    refine R_seq (nd Tryd.f19 [1, 1, 1, 1, 1, 1, 0]) (nd Tryd.f19 [1, 1, 1, 1, 1, 1, 1]) (by kernel_rfl) ?_
    refine R_region 15 (rg Tryd.f19 [1, 1, 1, 1, 1, 1, 0]) (by kernel_rfl) ?_
    have k42 : opsOk 52 (rg Tryd.f19 [1, 1, 1, 1, 1, 1, 0]) = true := by kernel_rfl
    refine P_op k42 (.v (.agg [.val (.int .i64 v5.Z), .own 3 0 3 o40.length])) (by kernel_rfl) ?_
    refine P_write k42 ([(2, (0, .box 24 [.val (.int .i64 v5.Z), .own 3 0 3 o40.length]))]) (.undef) (by kernel_rfl) (Step_store_box 24 (.tmp 4) (.tmp 51) 2 0 0 24 [.val (.int .i64 0), .emp] (.agg [.val (.int .i64 v5.Z), .own 3 0 3 o40.length]) [.val (.int .i64 v5.Z), .own 3 0 3 o40.length] (by kernel_rfl) (by kernel_rfl) (by kernel_rfl) (by kernel_rfl) (by kernel_rfl) (by kernel_rfl) (by kernel_rfl) (by kernel_rfl)) ?_
    refine HOps_end (by kernel_rfl) ?_
    obtain rfl := Option.some.inj hm
    refine H_swap 3 0 ?_
    refine R_ret (by kernel_rfl) ?_
    exact ret_mk (by kernel_rfl) (by kernel_rfl)

end Saw
end Go.SL

namespace Go.SL
namespace Saw
open Go.Proofs
set_option maxHeartbeats 4000000

def ref12_Same_x (r : Bool) : V := .v (.one (.val (.bool r)))

def ref12_Same_o (r : Bool) : List (Nat × (Nat × O)) := []

theorem ref12_Same_f (r : Bool) : Frozen (ref12_Same_o r) := by
  intro i k o h
  unfold ref12_Same_o at h
  cases h

def ref12_Same_L2_S (a1 : Ring) (a2 : Ring) (x10 : Int) : St :=
  { slots := [(2, .v (.one (.bptr 1 0 0))), (3, .v (.one (.bptr 2 0 0))), (5, .v (.one (.val (.int .i64 x10))))], objs := [(1, (0, .box 24 [.val (.int .i64 a1.Z), tl e_Reading default a1.Read])), (2, (0, .box 24 [.val (.int .i64 a2.Z), tl e_Reading default a2.Read]))] }

def ref12_Same_L2_T : St :=
  { slots := [], objs := [] }

def ref12_Same_k1_S (a1 : Ring) (a2 : Ring) (x6 : Bool) : St :=
  { slots := [(2, .v (.one (.bptr 1 0 0))), (3, .v (.one (.bptr 2 0 0))), (19, .v (.one (.val (.bool x6))))], objs := [(1, (0, .box 24 [.val (.int .i64 a1.Z), tl e_Reading default a1.Read])), (2, (0, .box 24 [.val (.int .i64 a2.Z), tl e_Reading default a2.Read]))] }

set_option maxRecDepth 100000 in
theorem ref12_Same_L2_ok (w : World) (A : Nat → Prop) (hg : Globs globs w A) (a1 : Ring) (a2 : Ring) : ∀ (n : Nat) (x10 : Int) (res : Bool ⊕ Unit), ref12_Same_L2 a1 a2 n x10 = some res → HL ({ P := Tryd.prog, w0 := w, nt := 38, A := A, globs := globs, mixed := mixed, glob := hg } : Ctx) (nd Tryd.f16 [1, 1, 0, 1, 0, 0]) (loopQ 0 (fun o => ref12_Same_L2_T) (fun v st => RetQ Tryd.prog Tryd.f16 (ref12_Same_x v) (ref12_Same_o v) .ret st) res) n (ref12_Same_L2_S a1 a2 x10) := by
  intro n
  induction n with
  | zero =>
    intro x10 res hm
    cases hm
  | succ n ih =>
    intro x10 res hm
    refine HL_succ ?_
    refine R_seq (nd Tryd.f16 [1, 1, 0, 1, 0, 0, 0]) (nd Tryd.f16 [1, 1, 0, 1, 0, 0, 1]) (by kernel_rfl) ?_
    refine R_seq (nd Tryd.f16 [1, 1, 0, 1, 0, 0, 0, 0]) (nd Tryd.f16 [1, 1, 0, 1, 0, 0, 0, 1]) (by kernel_rfl) ?_
    refine R_region 4 (rg Tryd.f16 [1, 1, 0, 1, 0, 0, 0, 0]) (by kernel_rfl) ?_
    have k11 : opsOk 38 (rg Tryd.f16 [1, 1, 0, 1, 0, 0, 0, 0]) = true := by kernel_rfl
    refine P_op k11 (.v (.one (.val (.int .i64 x10)))) (by kernel_rfl) ?_
    refine P_op k11 (.v (.one (.bptr 1 0 1))) (by kernel_rfl) ?_
    refine P_op k11 (.v (.one (tl e_Reading default a1.Read))) (by kernel_rfl) ?_
    refine P_op k11 (.v (.one (.val (.int .i64 ((a1.Read.length : Nat) : Int))))) (by kernel_rfl) ?_
    refine P_op k11 (.v (.one (.val (.bool (decide (x10 < ((a1.Read.length : Nat) : Int))))))) (by kernel_rfl) ?_
    refine HOps_end (by kernel_rfl) ?_
    refine R_cond (.tmp 24) (nd Tryd.f16 [1, 1, 0, 1, 0, 0, 0, 1, 0]) (nd Tryd.f16 [1, 1, 0, 1, 0, 0, 0, 1, 1]) (by kernel_rfl) (decide (x10 < ((a1.Read.length : Nat) : Int))) (by kernel_rfl) (fun b12 => ?_) (fun b12 => ?_)
    · replace hm := bif_t b12 hm
      refine R_skip (by kernel_rfl) ?_
      refine R_seq (nd Tryd.f16 [1, 1, 0, 1, 0, 0, 1, 0]) (nd Tryd.f16 [1, 1, 0, 1, 0, 0, 1, 1]) (by kernel_rfl) ?_
      refine R_block 1 (nd Tryd.f16 [1, 1, 0, 1, 0, 0, 1, 0, 0]) (by kernel_rfl) ?_
      refine R_seq (nd Tryd.f16 [1, 1, 0, 1, 0, 0, 1, 0, 0, 0]) (nd Tryd.f16 [1, 1, 0, 1, 0, 0, 1, 0, 0, 1]) (by kernel_rfl) ?_
      obtain ⟨g13, hm⟩ := bif_n hm
      obtain ⟨g14, hm⟩ := bif_n hm
      refine R_draw 6 (rg Tryd.f16 [1, 1, 0, 1, 0, 0, 1, 0, 0, 0]) (by kernel_rfl) [⟨true, .v (.one (.bptr 1 0 1)), [], [], [2], []⟩, ⟨true, .v (.one (tl e_Reading default a1.Read)), [], [], [27], [1]⟩, ⟨true, .v (.one (.val (.int .i64 x10))), [], [], [5], []⟩, ⟨true, .v (.one (.lptr (e_Reading (a1.Read.getD x10.toNat default)))), [], [], [28, 29], []⟩, ⟨true, .v (.agg [.val (.int .i64 (((a1.Read.getD x10.toNat default).P).X)), .val (.int .i64 (((a1.Read.getD x10.toNat default).P).Y)), .val (.bool ((a1.Read.getD x10.toNat default).Ok))]), [], [], [30], []⟩, ⟨true, .v (.one (.bptr 2 0 1)), [], [], [3], []⟩, ⟨true, .v (.one (tl e_Reading default a2.Read)), [], [], [32], [2]⟩, ⟨true, .v (.one (.val (.int .i64 x10))), [], [], [5], []⟩, ⟨true, .v (.one (.lptr (e_Reading (a2.Read.getD x10.toNat default)))), [], [], [33, 34], []⟩, ⟨true, .v (.agg [.val (.int .i64 (((a2.Read.getD x10.toNat default).P).X)), .val (.int .i64 (((a2.Read.getD x10.toNat default).P).Y)), .val (.bool ((a2.Read.getD x10.toNat default).Ok))]), [], [], [35], []⟩, ⟨true, .v (.one (.val (.bool (!(((((a1.Read.getD x10.toNat default).P).X == ((a2.Read.getD x10.toNat default).P).X) && ((((a1.Read.getD x10.toNat default).P).Y == ((a2.Read.getD x10.toNat default).P).Y) && true)) && (((a1.Read.getD x10.toNat default).Ok == (a2.Read.getD x10.toNat default).Ok) && true)))))), [], [], [31, 36], []⟩] [0, 1, 0, 7, 15, 0, 32, 0, 224, 480, 1023] (by kernel_rfl) (by kernel_rfl) (by kernel_rfl) (by kernel_rfl) (by kernel_rfl) (by kernel_rfl) ?_ ?_
      · refine A_pure (.v (.one (.bptr 1 0 1))) [2] [] (True) (by kernel_rfl) trivial ?_
        refine A_pure (.v (.one (tl e_Reading default a1.Read))) [27] [1] (True) (by kernel_rfl) trivial ?_
        refine A_pure (.v (.one (.val (.int .i64 x10)))) [5] [] (True) (by kernel_rfl) trivial ?_
        refine A_pure (.v (.one (.lptr (e_Reading (a1.Read.getD x10.toNat default))))) [28, 29] [] (0 ≤ x10 ∧ x10 < ((a1.Read.length : Nat) : Int)) (by kernel_rfl) (inb_of g13) ?_
        refine A_pure (.v (.agg [.val (.int .i64 (((a1.Read.getD x10.toNat default).P).X)), .val (.int .i64 (((a1.Read.getD x10.toNat default).P).Y)), .val (.bool ((a1.Read.getD x10.toNat default).Ok))])) [30] [] (True) (by kernel_rfl) trivial ?_
        refine A_pure (.v (.one (.bptr 2 0 1))) [3] [] (True) (by kernel_rfl) trivial ?_
        refine A_pure (.v (.one (tl e_Reading default a2.Read))) [32] [2] (True) (by kernel_rfl) trivial ?_
        refine A_pure (.v (.one (.val (.int .i64 x10)))) [5] [] (True) (by kernel_rfl) trivial ?_
        refine A_pure (.v (.one (.lptr (e_Reading (a2.Read.getD x10.toNat default))))) [33, 34] [] (0 ≤ x10 ∧ x10 < ((a2.Read.length : Nat) : Int)) (by kernel_rfl) (inb_of g14) ?_
        refine A_pure (.v (.agg [.val (.int .i64 (((a2.Read.getD x10.toNat default).P).X)), .val (.int .i64 (((a2.Read.getD x10.toNat default).P).Y)), .val (.bool ((a2.Read.getD x10.toNat default).Ok))])) [35] [] (True) (by kernel_rfl) trivial ?_
        refine A_pure (.v (.one (.val (.bool (!(((((a1.Read.getD x10.toNat default).P).X == ((a2.Read.getD x10.toNat default).P).X) && ((((a1.Read.getD x10.toNat default).P).Y == ((a2.Read.getD x10.toNat default).P).Y) && true)) && (((a1.Read.getD x10.toNat default).Ok == (a2.Read.getD x10.toNat default).Ok) && true))))))) [31, 36] [] (True) (by kernel_rfl) trivial ?_
        exact A_end
      · refine R_cond (.tmp 37) (nd Tryd.f16 [1, 1, 0, 1, 0, 0, 1, 0, 0, 1, 0]) (nd Tryd.f16 [1, 1, 0, 1, 0, 0, 1, 0, 0, 1, 1]) (by kernel_rfl) (!(((((a1.Read.getD x10.toNat default).P).X == ((a2.Read.getD x10.toNat default).P).X) && ((((a1.Read.getD x10.toNat default).P).Y == ((a2.Read.getD x10.toNat default).P).Y) && true)) && (((a1.Read.getD x10.toNat default).Ok == (a2.Read.getD x10.toNat default).Ok) && true))) (by kernel_rfl) (fun b15 => ?_) (fun b15 => ?_)
        · replace hm := bif_t b15 hm
          refine R_seq (nd Tryd.f16 [1, 1, 0, 1, 0, 0, 1, 0, 0, 1, 0, 0]) (nd Tryd.f16 [1, 1, 0, 1, 0, 0, 1, 0, 0, 1, 0, 1]) (by kernel_rfl) ?_
          refine R_region 7 (rg Tryd.f16 [1, 1, 0, 1, 0, 0, 1, 0, 0, 1, 0, 0]) (by kernel_rfl) ?_
          have k16 : opsOk 38 (rg Tryd.f16 [1, 1, 0, 1, 0, 0, 1, 0, 0, 1, 0, 0]) = true := by kernel_rfl
          refine P_op k16 (.v (.one (.val (.bool false)))) (by kernel_rfl) ?_
          refine HOps_end (by kernel_rfl) ?_
          obtain rfl := Option.some.inj hm
          refine R_ret (by kernel_rfl) ?_
          refine L1_ret false ?_
          exact ret_mk (by kernel_rfl) (by kernel_rfl)
        · replace hm := bif_f b15 hm
          refine R_skip (by kernel_rfl) ?_
          refine R_region 5 (rg Tryd.f16 [1, 1, 0, 1, 0, 0, 1, 1]) (by kernel_rfl) ?_
          have k17 : opsOk 38 (rg Tryd.f16 [1, 1, 0, 1, 0, 0, 1, 1]) = true := by kernel_rfl
          refine P_op k17 (.v (.one (.val (.int .i64 x10)))) (by kernel_rfl) ?_
          refine P_op k17 (.v (.one (.val (.int .i64 (w64 (x10 + 1)))))) (by kernel_rfl) ?_
          refine P_op k17 (.v (.one (.val (.int .i64 (w64 (x10 + 1)))))) (by kernel_rfl) ?_
          refine HOps_end (by kernel_rfl) ?_
          exact HL_enter (ref12_Same_L2_S a1 a2 (w64 (x10 + 1))) (by kernel_rfl) (by kernel_rfl) (ih (w64 (x10 + 1)) _ hm)
    · replace hm := bif_f b12 hm
      refine R_exit 0 (by kernel_rfl) ?_
      obtain rfl := Option.some.inj hm
      exact L1_mk () (by kernel_rfl) (by kernel_rfl)

set_option maxRecDepth 100000 in
theorem ref12_Same_ok (a1 : Ring) (a2 : Ring) (r : Bool) (hm : ref12_Same a1 a2 = some r) : Ct Tryd.prog globs 16 [.agg [.val (.int .i64 a1.Z), tl e_Reading default a1.Read], .agg [.val (.int .i64 a2.Z), tl e_Reading default a2.Read]] (ref12_Same_x r) (ref12_Same_o r) := by
  unfold ref12_Same at hm
  refine Ct_of_H (fn := Tryd.f16) (c := nd Tryd.f16 []) mixed (by kernel_rfl) (by kernel_rfl) (by kernel_rfl) fun w A hg => ?_
  show H ({ P := Tryd.prog, w0 := w, nt := 38, A := A, globs := globs, mixed := mixed, glob := hg } : Ctx) _ _ _
  refine R_seq (nd Tryd.f16 [0]) (nd Tryd.f16 [1]) (by kernel_rfl) ?_
  refine R_region 0 (rg Tryd.f16 [0]) (by kernel_rfl) ?_
  have k3 : opsOk 38 (rg Tryd.f16 [0]) = true := by kernel_rfl
  refine P_step k3 ([(1, 0)]) ([(1, (0, .box 24 [.val (.int .i64 a1.Z), tl e_Reading default a1.Read]))]) (.v (.one (.bptr 1 0 0))) (by kernel_rfl) (Step_box 24 (.tmp 0) 1 0 (.agg [.val (.int .i64 a1.Z), tl e_Reading default a1.Read]) (by kernel_rfl) (by kernel_rfl) (by kernel_rfl)) ?_
  refine P_step k3 ([(2, 0)]) ([(2, (0, .box 24 [.val (.int .i64 a2.Z), tl e_Reading default a2.Read]))]) (.v (.one (.bptr 2 0 0))) (by kernel_rfl) (Step_box 24 (.tmp 1) 2 0 (.agg [.val (.int .i64 a2.Z), tl e_Reading default a2.Read]) (by kernel_rfl) (by kernel_rfl) (by kernel_rfl)) ?_
  refine P_op k3 (.v (.one (.val (.bool false)))) (by kernel_rfl) ?_
  refine HOps_end (by kernel_rfl) ?_
  refine R_seq (nd Tryd.f16 [1, 0]) (nd Tryd.f16 [1, 1]) (by kernel_rfl) ?_
  refine R_join (ι := Bool) (nd Tryd.f16 [1, 0, 0]) (nd Tryd.f16 [1, 0, 1]) (by kernel_rfl) (fun p => ref12_Same_k1_S a1 a2 p) (fun p => ref12_Same_k1 a1 a2 p = some r) ?_ ?_
  · rintro x6 hm
    show H _ (ref12_Same_k1_S a1 a2 x6) (nd Tryd.f16 [1, 0, 1]) _
    refine R_cond (.tmp 19) (nd Tryd.f16 [1, 0, 1, 0]) (nd Tryd.f16 [1, 0, 1, 1]) (by kernel_rfl) x6 (by kernel_rfl) (fun b7 => ?_) (fun b7 => ?_)
    · replace hm := bif_t b7 hm
      refine R_seq (nd Tryd.f16 [1, 0, 1, 0, 0]) (nd Tryd.f16 [1, 0, 1, 0, 1]) (by kernel_rfl) ?_
      refine R_region 2 (rg Tryd.f16 [1, 0, 1, 0, 0]) (by kernel_rfl) ?_
      have k8 : opsOk 38 (rg Tryd.f16 [1, 0, 1, 0, 0]) = true := by kernel_rfl
      refine P_op k8 (.v (.one (.val (.bool false)))) (by kernel_rfl) ?_
      refine HOps_end (by kernel_rfl) ?_
      obtain rfl := Option.some.inj hm
      refine R_ret (by kernel_rfl) ?_
      exact ret_mk (by kernel_rfl) (by kernel_rfl)
    · replace hm := bif_f b7 hm
      refine R_skip (by kernel_rfl) ?_
      refine R_seq (nd Tryd.f16 [1, 1, 0]) (nd Tryd.f16 [1, 1, 1]) (by kernel_rfl) ?_
      refine R_seq (nd Tryd.f16 [1, 1, 0, 0]) (nd Tryd.f16 [1, 1, 0, 1]) (by kernel_rfl) ?_
      refine R_region 3 (rg Tryd.f16 [1, 1, 0, 0]) (by kernel_rfl) ?_
      have k9 : opsOk 38 (rg Tryd.f16 [1, 1, 0, 0]) = true := by kernel_rfl
      refine P_op k9 (.v (.one (.val (.int .i64 0)))) (by kernel_rfl) ?_
      refine HOps_end (by kernel_rfl) ?_
      obtain ⟨u20, h19, hm⟩ := bind_s hm
      refine R_loop1 (nd Tryd.f16 [1, 1, 0, 1, 0, 0]) 0 (by kernel_rfl) FUEL (fun o => ref12_Same_L2_T) (fun v st => RetQ Tryd.prog Tryd.f16 (ref12_Same_x v) (ref12_Same_o v) .ret st) u20 (HL_enter (ref12_Same_L2_S a1 a2 0) (by kernel_rfl) (by kernel_rfl) (ref12_Same_L2_ok w A hg a1 a2 FUEL 0 u20 h19)) ?_ ?_
      · rintro v21 rfl st hr
        obtain rfl := Option.some.inj hm
        exact hr
      · rintro o18 rfl
        replace hm : _ = some r := hm
        refine R_seq (nd Tryd.f16 [1, 1, 1, 0]) (nd Tryd.f16 [1, 1, 1, 1]) (by kernel_rfl) ?_
        refine R_region 8 (rg Tryd.f16 [1, 1, 1, 0]) (by kernel_rfl) ?_
        have k22 : opsOk 38 (rg Tryd.f16 [1, 1, 1, 0]) = true := by kernel_rfl
        refine P_op k22 (.v (.one (.val (.bool true)))) (by kernel_rfl) ?_
        refine HOps_end (by kernel_rfl) ?_
        obtain rfl := Option.some.inj hm
        refine R_ret (by kernel_rfl) ?_
        exact ret_mk (by kernel_rfl) (by kernel_rfl)
  · refine R_region 1 (rg Tryd.f16 [1, 0, 0]) (by kernel_rfl) ?_
    have k4 : opsOk 38 (rg Tryd.f16 [1, 0, 0]) = true := by kernel_rfl
    refine P_op k4 (.v (.one (.bptr 1 0 0))) (by kernel_rfl) ?_
    refine P_op k4 (.v (.one (.val (.int .i64 a1.Z)))) (by kernel_rfl) ?_
    refine P_op k4 (.v (.one (.bptr 2 0 0))) (by kernel_rfl) ?_
    refine P_op k4 (.v (.one (.val (.int .i64 a2.Z)))) (by kernel_rfl) ?_
    refine P_op k4 (.v (.one (.val (.bool (a1.Z != a2.Z))))) (by kernel_rfl) ?_
    refine P_op k4 (.v (.one (.val (.bool (a1.Z != a2.Z))))) (by kernel_rfl) ?_
    refine HOps_bool 11 (a1.Z != a2.Z) (by kernel_rfl) (fun b5 => ?_) (fun b5 => ?_)
    · replace hm := bif_t b5 hm
      refine P_skip k4 (by kernel_rfl) ?_
      refine P_skip k4 (by kernel_rfl) ?_
      refine P_skip k4 (by kernel_rfl) ?_
      refine P_skip k4 (by kernel_rfl) ?_
      refine P_skip k4 (by kernel_rfl) ?_
      refine P_skip k4 (by kernel_rfl) ?_
      refine P_skip k4 (by kernel_rfl) ?_
      refine P_op k4 (.v (.one (.val (.bool true)))) (by kernel_rfl) ?_
      refine HOps_end (by kernel_rfl) ?_
      exact J_mk (true) hm (by kernel_rfl) (by kernel_rfl)
    · replace hm := bif_f b5 hm
      refine P_op k4 (.v (.one (.bptr 1 0 1))) (by kernel_rfl) ?_
      refine P_op k4 (.v (.one (tl e_Reading default a1.Read))) (by kernel_rfl) ?_
      refine P_op k4 (.v (.one (.val (.int .i64 ((a1.Read.length : Nat) : Int))))) (by kernel_rfl) ?_
      refine P_op k4 (.v (.one (.bptr 2 0 1))) (by kernel_rfl) ?_
      refine P_op k4 (.v (.one (tl e_Reading default a2.Read))) (by kernel_rfl) ?_
      refine P_op k4 (.v (.one (.val (.int .i64 ((a2.Read.length : Nat) : Int))))) (by kernel_rfl) ?_
      refine P_op k4 (.v (.one (.val (.bool (((a1.Read.length : Nat) : Int) != ((a2.Read.length : Nat) : Int)))))) (by kernel_rfl) ?_
      refine P_op k4 (.v (.one (.val (.bool (((a1.Read.length : Nat) : Int) != ((a2.Read.length : Nat) : Int)))))) (by kernel_rfl) ?_
      refine HOps_end (by kernel_rfl) ?_
      exact J_mk (((a1.Read.length : Nat) : Int) != ((a2.Read.length : Nat) : Int)) hm (by kernel_rfl) (by kernel_rfl)

end Saw
end Go.SL
