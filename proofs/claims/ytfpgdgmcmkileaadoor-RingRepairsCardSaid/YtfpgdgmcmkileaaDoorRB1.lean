import Derived.Test.YtfpgdgmcmkileaaDoorRBase
set_option linter.unusedVariables false
set_option linter.unusedSimpArgs false
namespace Go.SL
namespace Saw
open Go.Proofs
set_option maxHeartbeats 4000000

def ref09_Ranged_x (r : Bool) : V := .v (.one (.val (.bool r)))

def ref09_Ranged_o (r : Bool) : List (Nat × (Nat × O)) := []

theorem ref09_Ranged_f (r : Bool) : Frozen (ref09_Ranged_o r) := by
  intro i k o h
  unfold ref09_Ranged_o at h
  cases h

def ref09_Ranged_k2_S (a1 : List Point) (x4 : Int) (x12 : Bool) : St :=
  { slots := [(0, .v (.one (tl e_Point default a1))), (3, .v (.one (.val (.int .i64 x4)))), (39, .v (.one (.val (.bool x12))))], objs := [] }

def ref09_Ranged_L1_S (a1 : List Point) (x4 : Int) : St :=
  { slots := [(0, .v (.one (tl e_Point default a1))), (3, .v (.one (.val (.int .i64 x4))))], objs := [] }

def ref09_Ranged_L1_T : St :=
  { slots := [], objs := [] }

set_option maxRecDepth 100000 in
theorem ref09_Ranged_L1_ok (w : World) (A : Nat → Prop) (hg : Globs globs w A) (a1 : List Point) : ∀ (n : Nat) (x4 : Int) (res : Bool ⊕ Unit), ref09_Ranged_L1 a1 n x4 = some res → HL ({ P := Tryd.prog, w0 := w, nt := 40, A := A, globs := globs, mixed := mixed, glob := hg } : Ctx) (nd Tryd.f29 [1, 0, 1, 0, 0]) (loopQ 0 (fun o => ref09_Ranged_L1_T) (fun v st => RetQ Tryd.prog Tryd.f29 (ref09_Ranged_x v) (ref09_Ranged_o v) .ret st) res) n (ref09_Ranged_L1_S a1 x4) := by
  intro n
  induction n with
  | zero =>
    intro x4 res hm
    cases hm
  | succ n ih =>
    intro x4 res hm
    refine HL_succ ?_
    refine R_seq (nd Tryd.f29 [1, 0, 1, 0, 0, 0]) (nd Tryd.f29 [1, 0, 1, 0, 0, 1]) (by kernel_rfl) ?_
    refine R_seq (nd Tryd.f29 [1, 0, 1, 0, 0, 0, 0]) (nd Tryd.f29 [1, 0, 1, 0, 0, 0, 1]) (by kernel_rfl) ?_
    refine R_region 2 (rg Tryd.f29 [1, 0, 1, 0, 0, 0, 0]) (by kernel_rfl) ?_
    have k5 : opsOk 40 (rg Tryd.f29 [1, 0, 1, 0, 0, 0, 0]) = true := by kernel_rfl
    refine P_op k5 (.v (.one (.val (.int .i64 x4)))) (by kernel_rfl) ?_
    refine P_op k5 (.v (.one (tl e_Point default a1))) (by kernel_rfl) ?_
    refine P_op k5 (.v (.one (.val (.int .i64 ((a1.length : Nat) : Int))))) (by kernel_rfl) ?_
    refine P_op k5 (.v (.one (.val (.bool (decide (x4 < ((a1.length : Nat) : Int))))))) (by kernel_rfl) ?_
    refine HOps_end (by kernel_rfl) ?_
    refine R_cond (.tmp 7) (nd Tryd.f29 [1, 0, 1, 0, 0, 0, 1, 0]) (nd Tryd.f29 [1, 0, 1, 0, 0, 0, 1, 1]) (by kernel_rfl) (decide (x4 < ((a1.length : Nat) : Int))) (by kernel_rfl) (fun b6 => ?_) (fun b6 => ?_)
    · replace hm := bif_t b6 hm
      refine R_skip (by kernel_rfl) ?_
      refine R_seq (nd Tryd.f29 [1, 0, 1, 0, 0, 1, 0]) (nd Tryd.f29 [1, 0, 1, 0, 0, 1, 1]) (by kernel_rfl) ?_
      refine R_block 1 (nd Tryd.f29 [1, 0, 1, 0, 0, 1, 0, 0]) (by kernel_rfl) ?_
      refine R_join (ι := Bool) (nd Tryd.f29 [1, 0, 1, 0, 0, 1, 0, 0, 0]) (nd Tryd.f29 [1, 0, 1, 0, 0, 1, 0, 0, 1]) (by kernel_rfl) (fun p => ref09_Ranged_k2_S a1 x4 p) (fun p => ref09_Ranged_k2 x4 (ref09_Ranged_L1 a1 n) p = some res) ?_ ?_
      · rintro x12 hm
        show H _ (ref09_Ranged_k2_S a1 x4 x12) (nd Tryd.f29 [1, 0, 1, 0, 0, 1, 0, 0, 1]) _
        refine R_cond (.tmp 39) (nd Tryd.f29 [1, 0, 1, 0, 0, 1, 0, 0, 1, 0]) (nd Tryd.f29 [1, 0, 1, 0, 0, 1, 0, 0, 1, 1]) (by kernel_rfl) x12 (by kernel_rfl) (fun b13 => ?_) (fun b13 => ?_)
        · replace hm := bif_t b13 hm
          refine R_seq (nd Tryd.f29 [1, 0, 1, 0, 0, 1, 0, 0, 1, 0, 0]) (nd Tryd.f29 [1, 0, 1, 0, 0, 1, 0, 0, 1, 0, 1]) (by kernel_rfl) ?_
          refine R_region 5 (rg Tryd.f29 [1, 0, 1, 0, 0, 1, 0, 0, 1, 0, 0]) (by kernel_rfl) ?_
          have k14 : opsOk 40 (rg Tryd.f29 [1, 0, 1, 0, 0, 1, 0, 0, 1, 0, 0]) = true := by kernel_rfl
          refine P_op k14 (.v (.one (.val (.bool false)))) (by kernel_rfl) ?_
          refine HOps_end (by kernel_rfl) ?_
          obtain rfl := Option.some.inj hm
          refine R_ret (by kernel_rfl) ?_
          refine L1_ret false ?_
          exact ret_mk (by kernel_rfl) (by kernel_rfl)
        · replace hm := bif_f b13 hm
          refine R_skip (by kernel_rfl) ?_
          refine R_region 3 (rg Tryd.f29 [1, 0, 1, 0, 0, 1, 1]) (by kernel_rfl) ?_
          have k15 : opsOk 40 (rg Tryd.f29 [1, 0, 1, 0, 0, 1, 1]) = true := by kernel_rfl
          refine P_op k15 (.v (.one (.val (.int .i64 x4)))) (by kernel_rfl) ?_
          refine P_op k15 (.v (.one (.val (.int .i64 (w64 (x4 + 1)))))) (by kernel_rfl) ?_
          refine P_op k15 (.v (.one (.val (.int .i64 (w64 (x4 + 1)))))) (by kernel_rfl) ?_
          refine HOps_end (by kernel_rfl) ?_
          exact HL_enter (ref09_Ranged_L1_S a1 (w64 (x4 + 1))) (by kernel_rfl) (by kernel_rfl) (ih (w64 (x4 + 1)) _ hm)
      · refine R_region 4 (rg Tryd.f29 [1, 0, 1, 0, 0, 1, 0, 0, 0]) (by kernel_rfl) ?_
        have k7 : opsOk 40 (rg Tryd.f29 [1, 0, 1, 0, 0, 1, 0, 0, 0]) = true := by kernel_rfl
        refine P_op k7 (.v (.one (tl e_Point default a1))) (by kernel_rfl) ?_
        refine P_op k7 (.v (.one (.val (.int .i64 x4)))) (by kernel_rfl) ?_
        obtain ⟨g8, hm⟩ := bif_n hm
        refine P_opc k7 (.v (.one (.lptr (e_Point (a1.getD x4.toNat default))))) (0 ≤ x4 ∧ x4 < ((a1.length : Nat) : Int)) (by kernel_rfl) (inb_of g8) ?_
        refine P_op k7 (.v (.one (.lptr (e_Point (a1.getD x4.toNat default))))) (by kernel_rfl) ?_
        refine P_op k7 (.v (.one (.val (.int .i64 ((a1.getD x4.toNat default).X))))) (by kernel_rfl) ?_
        refine P_op k7 (.v (.one (.val (.bool (decide (((a1.getD x4.toNat default).X) < (-600))))))) (by kernel_rfl) ?_
        refine P_op k7 (.v (.one (.val (.bool (decide (((a1.getD x4.toNat default).X) < (-600))))))) (by kernel_rfl) ?_
        refine HOps_bool 16 (decide (((a1.getD x4.toNat default).X) < (-600))) (by kernel_rfl) (fun b9 => ?_) (fun b9 => ?_)
        · replace hm := bif_t b9 hm
          refine P_skip k7 (by kernel_rfl) ?_
          refine P_skip k7 (by kernel_rfl) ?_
          refine P_skip k7 (by kernel_rfl) ?_
          refine P_skip k7 (by kernel_rfl) ?_
          refine P_skip k7 (by kernel_rfl) ?_
          refine P_skip k7 (by kernel_rfl) ?_
          refine P_op k7 (.v (.one (.val (.bool true)))) (by kernel_rfl) ?_
          refine P_op k7 (.v (.one (.val (.bool true)))) (by kernel_rfl) ?_
          refine P_skip k7 (by kernel_rfl) ?_
          refine P_skip k7 (by kernel_rfl) ?_
          refine P_skip k7 (by kernel_rfl) ?_
          refine P_skip k7 (by kernel_rfl) ?_
          refine P_skip k7 (by kernel_rfl) ?_
          refine P_skip k7 (by kernel_rfl) ?_
          refine P_op k7 (.v (.one (.val (.bool true)))) (by kernel_rfl) ?_
          refine P_op k7 (.v (.one (.val (.bool true)))) (by kernel_rfl) ?_
          refine P_skip k7 (by kernel_rfl) ?_
          refine P_skip k7 (by kernel_rfl) ?_
          refine P_skip k7 (by kernel_rfl) ?_
          refine P_skip k7 (by kernel_rfl) ?_
          refine P_skip k7 (by kernel_rfl) ?_
          refine P_skip k7 (by kernel_rfl) ?_
          refine P_op k7 (.v (.one (.val (.bool true)))) (by kernel_rfl) ?_
          refine HOps_end (by kernel_rfl) ?_
          exact J_mk (true) hm (by kernel_rfl) (by kernel_rfl)
        · replace hm := bif_f b9 hm
          refine P_op k7 (.v (.one (tl e_Point default a1))) (by kernel_rfl) ?_
          refine P_op k7 (.v (.one (.val (.int .i64 x4)))) (by kernel_rfl) ?_
          refine P_opc k7 (.v (.one (.lptr (e_Point (a1.getD x4.toNat default))))) (0 ≤ x4 ∧ x4 < ((a1.length : Nat) : Int)) (by kernel_rfl) (inb_of g8) ?_
          refine P_op k7 (.v (.one (.lptr (e_Point (a1.getD x4.toNat default))))) (by kernel_rfl) ?_
          refine P_op k7 (.v (.one (.val (.int .i64 ((a1.getD x4.toNat default).X))))) (by kernel_rfl) ?_
          refine P_op k7 (.v (.one (.val (.bool (decide (((a1.getD x4.toNat default).X) > 600)))))) (by kernel_rfl) ?_
          refine P_op k7 (.v (.one (.val (.bool (decide (((a1.getD x4.toNat default).X) > 600)))))) (by kernel_rfl) ?_
          refine P_op k7 (.v (.one (.val (.bool (decide (((a1.getD x4.toNat default).X) > 600)))))) (by kernel_rfl) ?_
          refine HOps_bool 24 (decide (((a1.getD x4.toNat default).X) > 600)) (by kernel_rfl) (fun b10 => ?_) (fun b10 => ?_)
          · replace hm := bif_t b10 hm
            refine P_skip k7 (by kernel_rfl) ?_
            refine P_skip k7 (by kernel_rfl) ?_
            refine P_skip k7 (by kernel_rfl) ?_
            refine P_skip k7 (by kernel_rfl) ?_
            refine P_skip k7 (by kernel_rfl) ?_
            refine P_skip k7 (by kernel_rfl) ?_
            refine P_op k7 (.v (.one (.val (.bool true)))) (by kernel_rfl) ?_
            refine P_op k7 (.v (.one (.val (.bool true)))) (by kernel_rfl) ?_
            refine P_skip k7 (by kernel_rfl) ?_
            refine P_skip k7 (by kernel_rfl) ?_
            refine P_skip k7 (by kernel_rfl) ?_
            refine P_skip k7 (by kernel_rfl) ?_
            refine P_skip k7 (by kernel_rfl) ?_
            refine P_skip k7 (by kernel_rfl) ?_
            refine P_op k7 (.v (.one (.val (.bool true)))) (by kernel_rfl) ?_
            refine HOps_end (by kernel_rfl) ?_
            exact J_mk (true) hm (by kernel_rfl) (by kernel_rfl)
          · replace hm := bif_f b10 hm
            refine P_op k7 (.v (.one (tl e_Point default a1))) (by kernel_rfl) ?_
            refine P_op k7 (.v (.one (.val (.int .i64 x4)))) (by kernel_rfl) ?_
            refine P_opc k7 (.v (.one (.lptr (e_Point (a1.getD x4.toNat default))))) (0 ≤ x4 ∧ x4 < ((a1.length : Nat) : Int)) (by kernel_rfl) (inb_of g8) ?_
            refine P_op k7 (.v (.one (.lptr ((e_Point (a1.getD x4.toNat default)).drop 1)))) (by kernel_rfl) ?_
            refine P_op k7 (.v (.one (.val (.int .i64 ((a1.getD x4.toNat default).Y))))) (by kernel_rfl) ?_
            refine P_op k7 (.v (.one (.val (.bool (decide (((a1.getD x4.toNat default).Y) < (-600))))))) (by kernel_rfl) ?_
            refine P_op k7 (.v (.one (.val (.bool (decide (((a1.getD x4.toNat default).Y) < (-600))))))) (by kernel_rfl) ?_
            refine P_op k7 (.v (.one (.val (.bool (decide (((a1.getD x4.toNat default).Y) < (-600))))))) (by kernel_rfl) ?_
            refine HOps_bool 32 (decide (((a1.getD x4.toNat default).Y) < (-600))) (by kernel_rfl) (fun b11 => ?_) (fun b11 => ?_)
            · replace hm := bif_t b11 hm
              refine P_skip k7 (by kernel_rfl) ?_
              refine P_skip k7 (by kernel_rfl) ?_
              refine P_skip k7 (by kernel_rfl) ?_
              refine P_skip k7 (by kernel_rfl) ?_
              refine P_skip k7 (by kernel_rfl) ?_
              refine P_skip k7 (by kernel_rfl) ?_
              refine P_op k7 (.v (.one (.val (.bool true)))) (by kernel_rfl) ?_
              refine HOps_end (by kernel_rfl) ?_
              exact J_mk (true) hm (by kernel_rfl) (by kernel_rfl)
            · replace hm := bif_f b11 hm
              refine P_op k7 (.v (.one (tl e_Point default a1))) (by kernel_rfl) ?_
              refine P_op k7 (.v (.one (.val (.int .i64 x4)))) (by kernel_rfl) ?_
              refine P_opc k7 (.v (.one (.lptr (e_Point (a1.getD x4.toNat default))))) (0 ≤ x4 ∧ x4 < ((a1.length : Nat) : Int)) (by kernel_rfl) (inb_of g8) ?_
              refine P_op k7 (.v (.one (.lptr ((e_Point (a1.getD x4.toNat default)).drop 1)))) (by kernel_rfl) ?_
              refine P_op k7 (.v (.one (.val (.int .i64 ((a1.getD x4.toNat default).Y))))) (by kernel_rfl) ?_
              refine P_op k7 (.v (.one (.val (.bool (decide (((a1.getD x4.toNat default).Y) > 600)))))) (by kernel_rfl) ?_
              refine P_op k7 (.v (.one (.val (.bool (decide (((a1.getD x4.toNat default).Y) > 600)))))) (by kernel_rfl) ?_
              refine HOps_end (by kernel_rfl) ?_
              exact J_mk (decide (((a1.getD x4.toNat default).Y) > 600)) hm (by kernel_rfl) (by kernel_rfl)
    · replace hm := bif_f b6 hm
      refine R_exit 0 (by kernel_rfl) ?_
      obtain rfl := Option.some.inj hm
      exact L1_mk () (by kernel_rfl) (by kernel_rfl)

set_option maxRecDepth 100000 in
theorem ref09_Ranged_ok (a1 : List Point) (r : Bool) (hm : ref09_Ranged a1 = some r) : Ct Tryd.prog globs 29 [.one (tl e_Point default a1)] (ref09_Ranged_x r) (ref09_Ranged_o r) := by
  unfold ref09_Ranged at hm
  refine Ct_of_H (fn := Tryd.f29) (c := nd Tryd.f29 []) mixed (by kernel_rfl) (by kernel_rfl) (by kernel_rfl) fun w A hg => ?_
  show H ({ P := Tryd.prog, w0 := w, nt := 40, A := A, globs := globs, mixed := mixed, glob := hg } : Ctx) _ _ _
  refine R_seq (nd Tryd.f29 [0]) (nd Tryd.f29 [1]) (by kernel_rfl) ?_
  refine R_region 0 (rg Tryd.f29 [0]) (by kernel_rfl) ?_
  have k2 : opsOk 40 (rg Tryd.f29 [0]) = true := by kernel_rfl
  refine P_op k2 (.v (.one (.val (.bool false)))) (by kernel_rfl) ?_
  refine HOps_end (by kernel_rfl) ?_
  refine R_seq (nd Tryd.f29 [1, 0]) (nd Tryd.f29 [1, 1]) (by kernel_rfl) ?_
  refine R_seq (nd Tryd.f29 [1, 0, 0]) (nd Tryd.f29 [1, 0, 1]) (by kernel_rfl) ?_
  refine R_region 1 (rg Tryd.f29 [1, 0, 0]) (by kernel_rfl) ?_
  have k3 : opsOk 40 (rg Tryd.f29 [1, 0, 0]) = true := by kernel_rfl
  refine P_op k3 (.v (.one (.val (.int .i64 0)))) (by kernel_rfl) ?_
  refine HOps_end (by kernel_rfl) ?_
  obtain ⟨u18, h17, hm⟩ := bind_s hm
  refine R_loop1 (nd Tryd.f29 [1, 0, 1, 0, 0]) 0 (by kernel_rfl) FUEL (fun o => ref09_Ranged_L1_T) (fun v st => RetQ Tryd.prog Tryd.f29 (ref09_Ranged_x v) (ref09_Ranged_o v) .ret st) u18 (HL_enter (ref09_Ranged_L1_S a1 0) (by kernel_rfl) (by kernel_rfl) (ref09_Ranged_L1_ok w A hg a1 FUEL 0 u18 h17)) ?_ ?_
  · rintro v19 rfl st hr
    obtain rfl := Option.some.inj hm
    exact hr
  · rintro o16 rfl
    replace hm : _ = some r := hm
    refine R_seq (nd Tryd.f29 [1, 1, 0]) (nd Tryd.f29 [1, 1, 1]) (by kernel_rfl) ?_
    refine R_region 6 (rg Tryd.f29 [1, 1, 0]) (by kernel_rfl) ?_
    have k20 : opsOk 40 (rg Tryd.f29 [1, 1, 0]) = true := by kernel_rfl
    refine P_op k20 (.v (.one (.val (.bool true)))) (by kernel_rfl) ?_
    refine HOps_end (by kernel_rfl) ?_
    obtain rfl := Option.some.inj hm
    refine R_ret (by kernel_rfl) ?_
    exact ret_mk (by kernel_rfl) (by kernel_rfl)

end Saw
end Go.SL

namespace Go.SL
namespace Saw
open Go.Proofs
set_option maxHeartbeats 4000000

def ref12_Check_x (r : Int) : V := .v (.one (.val (.int .i64 r)))

def ref12_Check_o (r : Int) : List (Nat × (Nat × O)) := []

theorem ref12_Check_f (r : Int) : Frozen (ref12_Check_o r) := by
  intro i k o h
  unfold ref12_Check_o at h
  cases h

def ref12_Check_k4_S (a1 : Ring) (x15 : Int) (x29 : Bool) : St :=
  { slots := [(1, .v (.one (.bptr 1 0 0))), (3, .v (.one (.val (.int .i64 x15)))), (53, .v (.one (.val (.bool x29))))], objs := [(1, (0, .box 24 [.val (.int .i64 a1.Z), tl e_Reading default a1.Read]))] }

def ref12_Check_k3_S (a1 : Ring) (x15 : Int) (x24 : Bool) : St :=
  { slots := [(1, .v (.one (.bptr 1 0 0))), (3, .v (.one (.val (.int .i64 x15)))), (4, .v (.one (.bptr 2 0 0))), (44, .v (.one (.val (.bool x24))))], objs := [(1, (0, .box 24 [.val (.int .i64 a1.Z), tl e_Reading default a1.Read])), (2, (0, .box 44 [.val (.int .i64 (((a1.Read.getD x15.toNat default).P).X)), .val (.int .i64 (((a1.Read.getD x15.toNat default).P).Y)), .val (.bool ((a1.Read.getD x15.toNat default).Ok))]))] }

def ref12_Check_L2_S (a1 : Ring) (x15 : Int) : St :=
  { slots := [(1, .v (.one (.bptr 1 0 0))), (3, .v (.one (.val (.int .i64 x15))))], objs := [(1, (0, .box 24 [.val (.int .i64 a1.Z), tl e_Reading default a1.Read]))] }

def ref12_Check_L2_T : St :=
  { slots := [], objs := [] }

def ref12_Check_k1_S (a1 : Ring) (x11 : Bool) : St :=
  { slots := [(1, .v (.one (.bptr 1 0 0))), (15, .v (.one (.val (.bool x11))))], objs := [(1, (0, .box 24 [.val (.int .i64 a1.Z), tl e_Reading default a1.Read]))] }

set_option maxRecDepth 100000 in
theorem ref12_Check_L2_ok (w : World) (A : Nat → Prop) (hg : Globs globs w A) (a1 : Ring) : ∀ (n : Nat) (x15 : Int) (res : Int ⊕ Unit), ref12_Check_L2 a1 n x15 = some res → HL ({ P := Tryd.prog, w0 := w, nt := 54, A := A, globs := globs, mixed := mixed, glob := hg } : Ctx) (nd Tryd.f15 [1, 1, 0, 1, 0, 0]) (loopQ 1 (fun o => ref12_Check_L2_T) (fun v st => RetQ Tryd.prog Tryd.f15 (ref12_Check_x v) (ref12_Check_o v) .ret st) res) n (ref12_Check_L2_S a1 x15) := by
  intro n
  induction n with
  | zero =>
    intro x15 res hm
    cases hm
  | succ n ih =>
    intro x15 res hm
    refine HL_succ ?_
    refine R_seq (nd Tryd.f15 [1, 1, 0, 1, 0, 0, 0]) (nd Tryd.f15 [1, 1, 0, 1, 0, 0, 1]) (by kernel_rfl) ?_
    refine R_seq (nd Tryd.f15 [1, 1, 0, 1, 0, 0, 0, 0]) (nd Tryd.f15 [1, 1, 0, 1, 0, 0, 0, 1]) (by kernel_rfl) ?_
    refine R_region 8 (rg Tryd.f15 [1, 1, 0, 1, 0, 0, 0, 0]) (by kernel_rfl) ?_
    have k16 : opsOk 54 (rg Tryd.f15 [1, 1, 0, 1, 0, 0, 0, 0]) = true := by kernel_rfl
    refine P_op k16 (.v (.one (.val (.int .i64 x15)))) (by kernel_rfl) ?_
    refine P_op k16 (.v (.one (.bptr 1 0 1))) (by kernel_rfl) ?_
    refine P_op k16 (.v (.one (tl e_Reading default a1.Read))) (by kernel_rfl) ?_
    refine P_op k16 (.v (.one (.val (.int .i64 ((a1.Read.length : Nat) : Int))))) (by kernel_rfl) ?_
    refine P_op k16 (.v (.one (.val (.bool (decide (x15 < ((a1.Read.length : Nat) : Int))))))) (by kernel_rfl) ?_
    refine HOps_end (by kernel_rfl) ?_
    refine R_cond (.tmp 28) (nd Tryd.f15 [1, 1, 0, 1, 0, 0, 0, 1, 0]) (nd Tryd.f15 [1, 1, 0, 1, 0, 0, 0, 1, 1]) (by kernel_rfl) (decide (x15 < ((a1.Read.length : Nat) : Int))) (by kernel_rfl) (fun b17 => ?_) (fun b17 => ?_)
    · replace hm := bif_t b17 hm
      refine R_skip (by kernel_rfl) ?_
      refine R_seq (nd Tryd.f15 [1, 1, 0, 1, 0, 0, 1, 0]) (nd Tryd.f15 [1, 1, 0, 1, 0, 0, 1, 1]) (by kernel_rfl) ?_
      refine R_block 2 (nd Tryd.f15 [1, 1, 0, 1, 0, 0, 1, 0, 0]) (by kernel_rfl) ?_
      refine R_seq (nd Tryd.f15 [1, 1, 0, 1, 0, 0, 1, 0, 0, 0]) (nd Tryd.f15 [1, 1, 0, 1, 0, 0, 1, 0, 0, 1]) (by kernel_rfl) ?_
      refine R_region 10 (rg Tryd.f15 [1, 1, 0, 1, 0, 0, 1, 0, 0, 0]) (by kernel_rfl) ?_
      have k18 : opsOk 54 (rg Tryd.f15 [1, 1, 0, 1, 0, 0, 1, 0, 0, 0]) = true := by kernel_rfl
      refine P_op k18 (.v (.one (.bptr 1 0 1))) (by kernel_rfl) ?_
      refine P_op k18 (.v (.one (tl e_Reading default a1.Read))) (by kernel_rfl) ?_
      refine P_op k18 (.v (.one (.val (.int .i64 x15)))) (by kernel_rfl) ?_
      obtain ⟨g19, hm⟩ := bif_n hm
      refine P_opc k18 (.v (.one (.lptr (e_Reading (a1.Read.getD x15.toNat default))))) (0 ≤ x15 ∧ x15 < ((a1.Read.length : Nat) : Int)) (by kernel_rfl) (inb_of g19) ?_
      refine P_op k18 (.v (.agg [.val (.int .i64 (((a1.Read.getD x15.toNat default).P).X)), .val (.int .i64 (((a1.Read.getD x15.toNat default).P).Y)), .val (.bool ((a1.Read.getD x15.toNat default).Ok))])) (by kernel_rfl) ?_
      refine P_step k18 ([(2, 0)]) ([(2, (0, .box 44 [.val (.int .i64 0), .val (.int .i64 0), .val (.bool false)]))]) (.v (.one (.bptr 2 0 0))) (by kernel_rfl) (Step_alloc 44 2 0 [.val (.int .i64 0), .val (.int .i64 0), .val (.bool false)] (by kernel_rfl) (by kernel_rfl) (by kernel_rfl)) ?_
      refine P_write k18 ([(2, (0, .box 44 [.val (.int .i64 (((a1.Read.getD x15.toNat default).P).X)), .val (.int .i64 (((a1.Read.getD x15.toNat default).P).Y)), .val (.bool ((a1.Read.getD x15.toNat default).Ok))]))]) (.undef) (by kernel_rfl) (Step_store_box 44 (.tmp 4) (.tmp 35) 2 0 0 44 [.val (.int .i64 0), .val (.int .i64 0), .val (.bool false)] (.agg [.val (.int .i64 (((a1.Read.getD x15.toNat default).P).X)), .val (.int .i64 (((a1.Read.getD x15.toNat default).P).Y)), .val (.bool ((a1.Read.getD x15.toNat default).Ok))]) [.val (.int .i64 (((a1.Read.getD x15.toNat default).P).X)), .val (.int .i64 (((a1.Read.getD x15.toNat default).P).Y)), .val (.bool ((a1.Read.getD x15.toNat default).Ok))] (by kernel_rfl) (by kernel_rfl) (by kernel_rfl) (by kernel_rfl) (by kernel_rfl) (by kernel_rfl) (by kernel_rfl) (by kernel_rfl)) ?_
      refine HOps_end (by kernel_rfl) ?_
      refine R_seq (nd Tryd.f15 [1, 1, 0, 1, 0, 0, 1, 0, 0, 1, 0]) (nd Tryd.f15 [1, 1, 0, 1, 0, 0, 1, 0, 0, 1, 1]) (by kernel_rfl) ?_
      refine R_join (ι := Bool) (nd Tryd.f15 [1, 1, 0, 1, 0, 0, 1, 0, 0, 1, 0, 0]) (nd Tryd.f15 [1, 1, 0, 1, 0, 0, 1, 0, 0, 1, 0, 1]) (by kernel_rfl) (fun p => ref12_Check_k3_S a1 x15 p) (fun p => ref12_Check_k3 a1 x15 (ref12_Check_L2 a1 n) p = some res) ?_ ?_
      · rintro x24 hm
        show H _ (ref12_Check_k3_S a1 x15 x24) (nd Tryd.f15 [1, 1, 0, 1, 0, 0, 1, 0, 0, 1, 0, 1]) _
        refine R_cond (.tmp 44) (nd Tryd.f15 [1, 1, 0, 1, 0, 0, 1, 0, 0, 1, 0, 1, 0]) (nd Tryd.f15 [1, 1, 0, 1, 0, 0, 1, 0, 0, 1, 0, 1, 1]) (by kernel_rfl) x24 (by kernel_rfl) (fun b25 => ?_) (fun b25 => ?_)
        · replace hm := bif_t b25 hm
          refine R_seq (nd Tryd.f15 [1, 1, 0, 1, 0, 0, 1, 0, 0, 1, 0, 1, 0, 0]) (nd Tryd.f15 [1, 1, 0, 1, 0, 0, 1, 0, 0, 1, 0, 1, 0, 1]) (by kernel_rfl) ?_
          refine R_region 12 (rg Tryd.f15 [1, 1, 0, 1, 0, 0, 1, 0, 0, 1, 0, 1, 0, 0]) (by kernel_rfl) ?_
          have k26 : opsOk 54 (rg Tryd.f15 [1, 1, 0, 1, 0, 0, 1, 0, 0, 1, 0, 1, 0, 0]) = true := by kernel_rfl
          refine P_op k26 (.v (.one (.val (.int .i64 9)))) (by kernel_rfl) ?_
          refine HOps_end (by kernel_rfl) ?_
          obtain rfl := Option.some.inj hm
          refine R_ret (by kernel_rfl) ?_
          refine L1_ret 9 ?_
          exact ret_mk (by kernel_rfl) (by kernel_rfl)
        · replace hm := bif_f b25 hm
          refine R_skip (by kernel_rfl) ?_
          refine R_join (ι := Bool) (nd Tryd.f15 [1, 1, 0, 1, 0, 0, 1, 0, 0, 1, 1, 0]) (nd Tryd.f15 [1, 1, 0, 1, 0, 0, 1, 0, 0, 1, 1, 1]) (by kernel_rfl) (fun p => ref12_Check_k4_S a1 x15 p) (fun p => ref12_Check_k4 x15 (ref12_Check_L2 a1 n) p = some res) ?_ ?_
          · rintro x29 hm
            show H _ (ref12_Check_k4_S a1 x15 x29) (nd Tryd.f15 [1, 1, 0, 1, 0, 0, 1, 0, 0, 1, 1, 1]) _
            refine R_cond (.tmp 53) (nd Tryd.f15 [1, 1, 0, 1, 0, 0, 1, 0, 0, 1, 1, 1, 0]) (nd Tryd.f15 [1, 1, 0, 1, 0, 0, 1, 0, 0, 1, 1, 1, 1]) (by kernel_rfl) x29 (by kernel_rfl) (fun b30 => ?_) (fun b30 => ?_)
            · replace hm := bif_t b30 hm
              refine R_seq (nd Tryd.f15 [1, 1, 0, 1, 0, 0, 1, 0, 0, 1, 1, 1, 0, 0]) (nd Tryd.f15 [1, 1, 0, 1, 0, 0, 1, 0, 0, 1, 1, 1, 0, 1]) (by kernel_rfl) ?_
              refine R_region 14 (rg Tryd.f15 [1, 1, 0, 1, 0, 0, 1, 0, 0, 1, 1, 1, 0, 0]) (by kernel_rfl) ?_
              have k31 : opsOk 54 (rg Tryd.f15 [1, 1, 0, 1, 0, 0, 1, 0, 0, 1, 1, 1, 0, 0]) = true := by kernel_rfl
              refine P_op k31 (.v (.one (.val (.int .i64 19)))) (by kernel_rfl) ?_
              refine HOps_end (by kernel_rfl) ?_
              obtain rfl := Option.some.inj hm
              refine R_ret (by kernel_rfl) ?_
              refine L1_ret 19 ?_
              exact ret_mk (by kernel_rfl) (by kernel_rfl)
            · replace hm := bif_f b30 hm
              refine R_skip (by kernel_rfl) ?_
              refine R_region 9 (rg Tryd.f15 [1, 1, 0, 1, 0, 0, 1, 1]) (by kernel_rfl) ?_
              have k32 : opsOk 54 (rg Tryd.f15 [1, 1, 0, 1, 0, 0, 1, 1]) = true := by kernel_rfl
              refine P_op k32 (.v (.one (.val (.int .i64 x15)))) (by kernel_rfl) ?_
              refine P_op k32 (.v (.one (.val (.int .i64 (w64 (x15 + 1)))))) (by kernel_rfl) ?_
              refine P_op k32 (.v (.one (.val (.int .i64 (w64 (x15 + 1)))))) (by kernel_rfl) ?_
              refine HOps_end (by kernel_rfl) ?_
              exact HL_enter (ref12_Check_L2_S a1 (w64 (x15 + 1))) (by kernel_rfl) (by kernel_rfl) (ih (w64 (x15 + 1)) _ hm)
          · refine R_region 13 (rg Tryd.f15 [1, 1, 0, 1, 0, 0, 1, 0, 0, 1, 1, 0]) (by kernel_rfl) ?_
            have k27 : opsOk 54 (rg Tryd.f15 [1, 1, 0, 1, 0, 0, 1, 0, 0, 1, 1, 0]) = true := by kernel_rfl
            refine P_op k27 (.v (.one (.bptr 2 0 2))) (by kernel_rfl) ?_
            refine P_op k27 (.v (.one (.val (.bool ((a1.Read.getD x15.toNat default).Ok))))) (by kernel_rfl) ?_
            refine P_op k27 (.v (.one (.val (.bool (!((a1.Read.getD x15.toNat default).Ok)))))) (by kernel_rfl) ?_
            refine P_op k27 (.v (.one (.val (.bool (!((a1.Read.getD x15.toNat default).Ok)))))) (by kernel_rfl) ?_
            refine HOps_bool 48 (!((a1.Read.getD x15.toNat default).Ok)) (by kernel_rfl) (fun b28 => ?_) (fun b28 => ?_)
            · replace hm := bif_t b28 hm
              refine P_op k27 (.v (.one (.bptr 2 0 0))) (by kernel_rfl) ?_
              refine P_op k27 (.v (.agg [.val (.int .i64 (((a1.Read.getD x15.toNat default).P).X)), .val (.int .i64 (((a1.Read.getD x15.toNat default).P).Y))])) (by kernel_rfl) ?_
              refine P_op k27 (.v (.agg [.val (.int .i64 0), .val (.int .i64 0)])) (by kernel_rfl) ?_
              refine P_op k27 (.v (.one (.val (.bool (!((((a1.Read.getD x15.toNat default).P).X == 0) && ((((a1.Read.getD x15.toNat default).P).Y == 0) && true))))))) (by kernel_rfl) ?_
              refine P_op k27 (.v (.one (.val (.bool (!((((a1.Read.getD x15.toNat default).P).X == 0) && ((((a1.Read.getD x15.toNat default).P).Y == 0) && true))))))) (by kernel_rfl) ?_
              refine HOps_end (by kernel_rfl) ?_
              exact J_mk (!((((a1.Read.getD x15.toNat default).P).X == 0) && ((((a1.Read.getD x15.toNat default).P).Y == 0) && true))) hm (by kernel_rfl) (by kernel_rfl)
            · replace hm := bif_f b28 hm
              refine P_skip k27 (by kernel_rfl) ?_
              refine P_skip k27 (by kernel_rfl) ?_
              refine P_skip k27 (by kernel_rfl) ?_
              refine P_skip k27 (by kernel_rfl) ?_
              refine P_op k27 (.v (.one (.val (.bool false)))) (by kernel_rfl) ?_
              refine HOps_end (by kernel_rfl) ?_
              exact J_mk (false) hm (by kernel_rfl) (by kernel_rfl)
      · refine R_region 11 (rg Tryd.f15 [1, 1, 0, 1, 0, 0, 1, 0, 0, 1, 0, 0]) (by kernel_rfl) ?_
        have k20 : opsOk 54 (rg Tryd.f15 [1, 1, 0, 1, 0, 0, 1, 0, 0, 1, 0, 0]) = true := by kernel_rfl
        refine P_op k20 (.v (.one (.bptr 2 0 2))) (by kernel_rfl) ?_
        refine P_op k20 (.v (.one (.val (.bool ((a1.Read.getD x15.toNat default).Ok))))) (by kernel_rfl) ?_
        refine P_op k20 (.v (.one (.val (.bool ((a1.Read.getD x15.toNat default).Ok))))) (by kernel_rfl) ?_
        refine HOps_bool 38 ((a1.Read.getD x15.toNat default).Ok) (by kernel_rfl) (fun b21 => ?_) (fun b21 => ?_)
        · replace hm := bif_t b21 hm
          refine P_op k20 (.v (.one (.bptr 2 0 0))) (by kernel_rfl) ?_
          refine P_op k20 (.v (.agg [.val (.int .i64 (((a1.Read.getD x15.toNat default).P).X)), .val (.int .i64 (((a1.Read.getD x15.toNat default).P).Y))])) (by kernel_rfl) ?_
          refine P_step k20 ([(3, 0)]) ([(3, (0, .row 38 2 1 (rowf e_Point default ([(a1.Read.getD x15.toNat default).P] : List Point))))]) (.v (.one (.own 3 0 2 1))) (by kernel_rfl) (Step_lit 34 38 1 #[(0, (.tmp 40))] 3 0 Tryd.t38 [.val (.int .i64 0), .val (.int .i64 0)] [(0, .agg [.val (.int .i64 (((a1.Read.getD x15.toNat default).P).X)), .val (.int .i64 (((a1.Read.getD x15.toNat default).P).Y))])] [.val (.int .i64 (((a1.Read.getD x15.toNat default).P).X)), .val (.int .i64 (((a1.Read.getD x15.toNat default).P).Y))] (by kernel_rfl) (by kernel_rfl) (by kernel_rfl) (by kernel_rfl) (by kernel_rfl) (by kernel_rfl) (by kernel_rfl) (by kernel_rfl) (by kernel_rfl) (by kernel_rfl) (by kernel_rfl) (rowf e_Point default ([(a1.Read.getD x15.toNat default).P] : List Point)) (lit_succ (n := 0) lit_zero (by kernel_rfl))) ?_
          obtain ⟨v22, h23, hm⟩ := bind_s hm
          refine P_step k20 (obNv 4 (ref09_Ranged_o v22)) (obSh 4 (ref09_Ranged_o v22)) ((ref09_Ranged_x v22).sh 4) (by kernel_rfl) (Step_call_own (x := ref09_Ranged_x v22) (ob := ref09_Ranged_o v22) (f := 29) (args := [(.tmp 41)]) (fn := Tryd.f29) (ys := [.one (.own 3 0 2 1)]) (zs := [.one (.lst 1 (rowf e_Point default ([(a1.Read.getD x15.toNat default).P] : List Point)))]) (p := (1 ≤ 1 ∧ True)) 4 (by kernel_rfl) (by kernel_rfl) (by kernel_rfl) (by kernel_rfl) (by kernel_rfl) (by kernel_rfl) ⟨(Nat.le_refl _), trivial⟩ (by simp only [tl, show ([(a1.Read.getD x15.toNat default).P] : List Point).length = 1 from rfl]) (ref09_Ranged_ok ([(a1.Read.getD x15.toNat default).P] : List Point) v22 h23) (by kernel_rfl) (by kernel_rfl) (by kernel_rfl) (ref09_Ranged_f v22)) ?_
          refine P_op k20 (.v (.one (.val (.bool (!v22))))) (by kernel_rfl) ?_
          refine P_op k20 (.v (.one (.val (.bool (!v22))))) (by kernel_rfl) ?_
          refine HOps_end (by kernel_rfl) ?_
          exact J_mk (!v22) hm (by kernel_rfl) (by kernel_rfl)
        · replace hm := bif_f b21 hm
          refine P_skip k20 (by kernel_rfl) ?_
          refine P_skip k20 (by kernel_rfl) ?_
          refine P_skip k20 (by kernel_rfl) ?_
          refine P_skip k20 (by kernel_rfl) ?_
          refine P_skip k20 (by kernel_rfl) ?_
          refine P_op k20 (.v (.one (.val (.bool false)))) (by kernel_rfl) ?_
          refine HOps_end (by kernel_rfl) ?_
          exact J_mk (false) hm (by kernel_rfl) (by kernel_rfl)
    · replace hm := bif_f b17 hm
      refine R_exit 1 (by kernel_rfl) ?_
      obtain rfl := Option.some.inj hm
      exact L1_mk () (by kernel_rfl) (by kernel_rfl)

set_option maxRecDepth 100000 in
theorem ref12_Check_ok (a1 : Ring) (r : Int) (hm : ref12_Check a1 = some r) : Ct Tryd.prog globs 15 [.agg [.val (.int .i64 a1.Z), tl e_Reading default a1.Read]] (ref12_Check_x r) (ref12_Check_o r) := by
  unfold ref12_Check at hm
  refine Ct_of_H (fn := Tryd.f15) (c := nd Tryd.f15 []) mixed (by kernel_rfl) (by kernel_rfl) (by kernel_rfl) fun w A hg => ?_
  show H ({ P := Tryd.prog, w0 := w, nt := 54, A := A, globs := globs, mixed := mixed, glob := hg } : Ctx) _ _ _
  refine R_seq (nd Tryd.f15 [0]) (nd Tryd.f15 [1]) (by kernel_rfl) ?_
  refine R_region 0 (rg Tryd.f15 [0]) (by kernel_rfl) ?_
  have k2 : opsOk 54 (rg Tryd.f15 [0]) = true := by kernel_rfl
  refine P_step k2 ([(1, 0)]) ([(1, (0, .box 24 [.val (.int .i64 a1.Z), tl e_Reading default a1.Read]))]) (.v (.one (.bptr 1 0 0))) (by kernel_rfl) (Step_box 24 (.tmp 0) 1 0 (.agg [.val (.int .i64 a1.Z), tl e_Reading default a1.Read]) (by kernel_rfl) (by kernel_rfl) (by kernel_rfl)) ?_
  refine P_op k2 (.v (.one (.val (.int .i64 0)))) (by kernel_rfl) ?_
  refine HOps_end (by kernel_rfl) ?_
  refine R_seq (nd Tryd.f15 [1, 0]) (nd Tryd.f15 [1, 1]) (by kernel_rfl) ?_
  refine R_block 0 (nd Tryd.f15 [1, 0, 0]) (by kernel_rfl) ?_
  refine R_seq (nd Tryd.f15 [1, 0, 0, 0]) (nd Tryd.f15 [1, 0, 0, 1]) (by kernel_rfl) ?_
  refine R_region 1 (rg Tryd.f15 [1, 0, 0, 0]) (by kernel_rfl) ?_
  have k3 : opsOk 54 (rg Tryd.f15 [1, 0, 0, 0]) = true := by kernel_rfl
  refine P_op k3 (.v (.one (.bptr 1 0 1))) (by kernel_rfl) ?_
  refine P_op k3 (.v (.one (tl e_Reading default a1.Read))) (by kernel_rfl) ?_
  refine P_op k3 (.v (.one (.val (.int .i64 ((a1.Read.length : Nat) : Int))))) (by kernel_rfl) ?_
  refine P_op k3 (.v (.one (.val (.bool (decide (((a1.Read.length : Nat) : Int) < 8)))))) (by kernel_rfl) ?_
  refine P_op k3 (.v (.one (.val (.bool (decide (((a1.Read.length : Nat) : Int) < 8)))))) (by kernel_rfl) ?_
  refine HOps_end (by kernel_rfl) ?_
  refine R_cond (.tmp 5) (nd Tryd.f15 [1, 0, 0, 1, 0]) (nd Tryd.f15 [1, 0, 0, 1, 1]) (by kernel_rfl) (decide (((a1.Read.length : Nat) : Int) < 8)) (by kernel_rfl) (fun b4 => ?_) (fun b4 => ?_)
  · replace hm := bif_t b4 hm
    refine R_seq (nd Tryd.f15 [1, 0, 0, 1, 0, 0]) (nd Tryd.f15 [1, 0, 0, 1, 0, 1]) (by kernel_rfl) ?_
    refine R_region 2 (rg Tryd.f15 [1, 0, 0, 1, 0, 0]) (by kernel_rfl) ?_
    have k5 : opsOk 54 (rg Tryd.f15 [1, 0, 0, 1, 0, 0]) = true := by kernel_rfl
    refine P_op k5 (.v (.one (.val (.int .i64 3)))) (by kernel_rfl) ?_
    refine HOps_end (by kernel_rfl) ?_
    obtain rfl := Option.some.inj hm
    refine R_ret (by kernel_rfl) ?_
    exact ret_mk (by kernel_rfl) (by kernel_rfl)
  · replace hm := bif_f b4 hm
    refine R_seq (nd Tryd.f15 [1, 0, 0, 1, 1, 0]) (nd Tryd.f15 [1, 0, 0, 1, 1, 1]) (by kernel_rfl) ?_
    refine R_region 3 (rg Tryd.f15 [1, 0, 0, 1, 1, 0]) (by kernel_rfl) ?_
    have k6 : opsOk 54 (rg Tryd.f15 [1, 0, 0, 1, 1, 0]) = true := by kernel_rfl
    refine P_op k6 (.v (.one (.bptr 1 0 1))) (by kernel_rfl) ?_
    refine P_op k6 (.v (.one (tl e_Reading default a1.Read))) (by kernel_rfl) ?_
    refine P_op k6 (.v (.one (.val (.int .i64 ((a1.Read.length : Nat) : Int))))) (by kernel_rfl) ?_
    refine P_op k6 (.v (.one (.val (.bool (decide (((a1.Read.length : Nat) : Int) > 32)))))) (by kernel_rfl) ?_
    refine P_op k6 (.v (.one (.val (.bool (decide (((a1.Read.length : Nat) : Int) > 32)))))) (by kernel_rfl) ?_
    refine HOps_end (by kernel_rfl) ?_
    refine R_cond (.tmp 10) (nd Tryd.f15 [1, 0, 0, 1, 1, 1, 0]) (nd Tryd.f15 [1, 0, 0, 1, 1, 1, 1]) (by kernel_rfl) (decide (((a1.Read.length : Nat) : Int) > 32)) (by kernel_rfl) (fun b7 => ?_) (fun b7 => ?_)
    · replace hm := bif_t b7 hm
      refine R_seq (nd Tryd.f15 [1, 0, 0, 1, 1, 1, 0, 0]) (nd Tryd.f15 [1, 0, 0, 1, 1, 1, 0, 1]) (by kernel_rfl) ?_
      refine R_region 4 (rg Tryd.f15 [1, 0, 0, 1, 1, 1, 0, 0]) (by kernel_rfl) ?_
      have k8 : opsOk 54 (rg Tryd.f15 [1, 0, 0, 1, 1, 1, 0, 0]) = true := by kernel_rfl
      refine P_op k8 (.v (.one (.val (.int .i64 4)))) (by kernel_rfl) ?_
      refine HOps_end (by kernel_rfl) ?_
      obtain rfl := Option.some.inj hm
      refine R_ret (by kernel_rfl) ?_
      exact ret_mk (by kernel_rfl) (by kernel_rfl)
    · replace hm := bif_f b7 hm
      refine R_join (ι := Bool) (nd Tryd.f15 [1, 0, 0, 1, 1, 1, 1, 0]) (nd Tryd.f15 [1, 0, 0, 1, 1, 1, 1, 1]) (by kernel_rfl) (fun p => ref12_Check_k1_S a1 p) (fun p => ref12_Check_k1 a1 p = some r) ?_ ?_
      · rintro x11 hm
        show H _ (ref12_Check_k1_S a1 x11) (nd Tryd.f15 [1, 0, 0, 1, 1, 1, 1, 1]) _
        refine R_cond (.tmp 15) (nd Tryd.f15 [1, 0, 0, 1, 1, 1, 1, 1, 0]) (nd Tryd.f15 [1, 0, 0, 1, 1, 1, 1, 1, 1]) (by kernel_rfl) x11 (by kernel_rfl) (fun b12 => ?_) (fun b12 => ?_)
        · replace hm := bif_t b12 hm
          refine R_seq (nd Tryd.f15 [1, 0, 0, 1, 1, 1, 1, 1, 0, 0]) (nd Tryd.f15 [1, 0, 0, 1, 1, 1, 1, 1, 0, 1]) (by kernel_rfl) ?_
          refine R_region 6 (rg Tryd.f15 [1, 0, 0, 1, 1, 1, 1, 1, 0, 0]) (by kernel_rfl) ?_
          have k13 : opsOk 54 (rg Tryd.f15 [1, 0, 0, 1, 1, 1, 1, 1, 0, 0]) = true := by kernel_rfl
          refine P_op k13 (.v (.one (.val (.int .i64 9)))) (by kernel_rfl) ?_
          refine HOps_end (by kernel_rfl) ?_
          obtain rfl := Option.some.inj hm
          refine R_ret (by kernel_rfl) ?_
          exact ret_mk (by kernel_rfl) (by kernel_rfl)
        · replace hm := bif_f b12 hm
          refine R_skip (by kernel_rfl) ?_
          refine R_seq (nd Tryd.f15 [1, 1, 0]) (nd Tryd.f15 [1, 1, 1]) (by kernel_rfl) ?_
          refine R_seq (nd Tryd.f15 [1, 1, 0, 0]) (nd Tryd.f15 [1, 1, 0, 1]) (by kernel_rfl) ?_
          refine R_region 7 (rg Tryd.f15 [1, 1, 0, 0]) (by kernel_rfl) ?_
          have k14 : opsOk 54 (rg Tryd.f15 [1, 1, 0, 0]) = true := by kernel_rfl
          refine P_op k14 (.v (.one (.val (.int .i64 0)))) (by kernel_rfl) ?_
          refine HOps_end (by kernel_rfl) ?_
          obtain ⟨u35, h34, hm⟩ := bind_s hm
          refine R_loop1 (nd Tryd.f15 [1, 1, 0, 1, 0, 0]) 1 (by kernel_rfl) FUEL (fun o => ref12_Check_L2_T) (fun v st => RetQ Tryd.prog Tryd.f15 (ref12_Check_x v) (ref12_Check_o v) .ret st) u35 (HL_enter (ref12_Check_L2_S a1 0) (by kernel_rfl) (by kernel_rfl) (ref12_Check_L2_ok w A hg a1 FUEL 0 u35 h34)) ?_ ?_
          · rintro v36 rfl st hr
            obtain rfl := Option.some.inj hm
            exact hr
          · rintro o33 rfl
            replace hm : _ = some r := hm
            refine R_seq (nd Tryd.f15 [1, 1, 1, 0]) (nd Tryd.f15 [1, 1, 1, 1]) (by kernel_rfl) ?_
            refine R_region 15 (rg Tryd.f15 [1, 1, 1, 0]) (by kernel_rfl) ?_
            have k37 : opsOk 54 (rg Tryd.f15 [1, 1, 1, 0]) = true := by kernel_rfl
            refine P_op k37 (.v (.one (.val (.int .i64 0)))) (by kernel_rfl) ?_
            refine HOps_end (by kernel_rfl) ?_
            obtain rfl := Option.some.inj hm
            refine R_ret (by kernel_rfl) ?_
            exact ret_mk (by kernel_rfl) (by kernel_rfl)
      · refine R_region 5 (rg Tryd.f15 [1, 0, 0, 1, 1, 1, 1, 0]) (by kernel_rfl) ?_
        have k9 : opsOk 54 (rg Tryd.f15 [1, 0, 0, 1, 1, 1, 1, 0]) = true := by kernel_rfl
        refine P_op k9 (.v (.one (.bptr 1 0 0))) (by kernel_rfl) ?_
        refine P_op k9 (.v (.one (.val (.int .i64 a1.Z)))) (by kernel_rfl) ?_
        refine P_op k9 (.v (.one (.val (.bool (decide (a1.Z < 0)))))) (by kernel_rfl) ?_
        refine P_op k9 (.v (.one (.val (.bool (decide (a1.Z < 0)))))) (by kernel_rfl) ?_
        refine HOps_bool 19 (decide (a1.Z < 0)) (by kernel_rfl) (fun b10 => ?_) (fun b10 => ?_)
        · replace hm := bif_t b10 hm
          refine P_skip k9 (by kernel_rfl) ?_
          refine P_skip k9 (by kernel_rfl) ?_
          refine P_skip k9 (by kernel_rfl) ?_
          refine P_op k9 (.v (.one (.val (.bool true)))) (by kernel_rfl) ?_
          refine P_op k9 (.v (.one (.val (.bool true)))) (by kernel_rfl) ?_
          refine HOps_end (by kernel_rfl) ?_
          exact J_mk (true) hm (by kernel_rfl) (by kernel_rfl)
        · replace hm := bif_f b10 hm
          refine P_op k9 (.v (.one (.bptr 1 0 0))) (by kernel_rfl) ?_
          refine P_op k9 (.v (.one (.val (.int .i64 a1.Z)))) (by kernel_rfl) ?_
          refine P_op k9 (.v (.one (.val (.bool (decide (a1.Z > 20000)))))) (by kernel_rfl) ?_
          refine P_op k9 (.v (.one (.val (.bool (decide (a1.Z > 20000)))))) (by kernel_rfl) ?_
          refine P_op k9 (.v (.one (.val (.bool (decide (a1.Z > 20000)))))) (by kernel_rfl) ?_
          refine HOps_end (by kernel_rfl) ?_
          exact J_mk (decide (a1.Z > 20000)) hm (by kernel_rfl) (by kernel_rfl)

end Saw
end Go.SL
