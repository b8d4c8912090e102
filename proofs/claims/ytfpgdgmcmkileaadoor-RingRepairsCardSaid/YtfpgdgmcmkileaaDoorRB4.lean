import Derived.Test.YtfpgdgmcmkileaaDoorRBase
set_option linter.unusedVariables false
set_option linter.unusedSimpArgs false
namespace Go.SL
namespace Saw
open Go.Proofs
set_option maxHeartbeats 4000000

def ref12_next_x (r : Int) : V := .v (.one (.val (.int .i64 r)))

def ref12_next_o (r : Int) : List (Nat × (Nat × O)) := []

theorem ref12_next_f (r : Int) : Frozen (ref12_next_o r) := by
  intro i k o h
  unfold ref12_next_o at h
  cases h

def ref12_next_L1_S (a1 : List Reading) (a3 : Int) (x8 : Int) : St :=
  { slots := [(0, .v (.one (tl e_Reading default a1))), (2, .v (.one (.val (.int .i64 a3)))), (7, .v (.one (.val (.int .i64 ((a1.length : Nat) : Int))))), (8, .v (.one (.val (.int .i64 x8))))], objs := [] }

def ref12_next_L1_T (x14 : Int) : St :=
  { slots := [(8, .v (.one (.val (.int .i64 x14))))], objs := [] }

set_option maxRecDepth 100000 in
theorem ref12_next_L1_ok (w : World) (A : Nat → Prop) (hg : Globs globs w A) (a1 : List Reading) (a3 : Int) : ∀ (n : Nat) (x8 : Int) (res : Int), ref12_next_L1 a1 a3 n x8 = some res → HL ({ P := Tryd.prog, w0 := w, nt := 32, A := A, globs := globs, mixed := mixed, glob := hg } : Ctx) (nd Tryd.f33 [1, 1, 1, 0, 0, 0]) (loopQ0 0 (fun o => ref12_next_L1_T o) res) n (ref12_next_L1_S a1 a3 x8) := by
  intro n
  induction n with
  | zero =>
    intro x8 res hm
    cases hm
  | succ n ih =>
    intro x8 res hm
    refine HL_succ ?_
    refine R_seq (nd Tryd.f33 [1, 1, 1, 0, 0, 0, 0]) (nd Tryd.f33 [1, 1, 1, 0, 0, 0, 1]) (by kernel_rfl) ?_
    refine R_seq (nd Tryd.f33 [1, 1, 1, 0, 0, 0, 0, 0]) (nd Tryd.f33 [1, 1, 1, 0, 0, 0, 0, 1]) (by kernel_rfl) ?_
    refine R_region 3 (rg Tryd.f33 [1, 1, 1, 0, 0, 0, 0, 0]) (by kernel_rfl) ?_
    have k9 : opsOk 32 (rg Tryd.f33 [1, 1, 1, 0, 0, 0, 0, 0]) = true := by kernel_rfl
    refine P_op k9 (.v (.one (tl e_Reading default a1))) (by kernel_rfl) ?_
    refine P_op k9 (.v (.one (.val (.int .i64 x8)))) (by kernel_rfl) ?_
    obtain ⟨g10, hm⟩ := bif_n hm
    refine P_opc k9 (.v (.one (.lptr (e_Reading (a1.getD x8.toNat default))))) (0 ≤ x8 ∧ x8 < ((a1.length : Nat) : Int)) (by kernel_rfl) (inb_of g10) ?_
    refine P_op k9 (.v (.one (.lptr ((e_Reading (a1.getD x8.toNat default)).drop 2)))) (by kernel_rfl) ?_
    refine P_op k9 (.v (.one (.val (.bool ((a1.getD x8.toNat default).Ok))))) (by kernel_rfl) ?_
    refine P_op k9 (.v (.one (.val (.bool (!((a1.getD x8.toNat default).Ok)))))) (by kernel_rfl) ?_
    refine HOps_end (by kernel_rfl) ?_
    refine R_cond (.tmp 23) (nd Tryd.f33 [1, 1, 1, 0, 0, 0, 0, 1, 0]) (nd Tryd.f33 [1, 1, 1, 0, 0, 0, 0, 1, 1]) (by kernel_rfl) (!((a1.getD x8.toNat default).Ok)) (by kernel_rfl) (fun b11 => ?_) (fun b11 => ?_)
    · replace hm := bif_t b11 hm
      refine R_skip (by kernel_rfl) ?_
      refine R_block 1 (nd Tryd.f33 [1, 1, 1, 0, 0, 0, 1, 0]) (by kernel_rfl) ?_
      refine R_region 4 (rg Tryd.f33 [1, 1, 1, 0, 0, 0, 1, 0]) (by kernel_rfl) ?_
      have k12 : opsOk 32 (rg Tryd.f33 [1, 1, 1, 0, 0, 0, 1, 0]) = true := by kernel_rfl
      refine P_op k12 (.v (.one (.val (.int .i64 x8)))) (by kernel_rfl) ?_
      refine P_op k12 (.v (.one (.val (.int .i64 a3)))) (by kernel_rfl) ?_
      refine P_op k12 (.v (.one (.val (.int .i64 (w64 (x8 + a3)))))) (by kernel_rfl) ?_
      refine P_op k12 (.v (.one (.val (.int .i64 ((a1.length : Nat) : Int))))) (by kernel_rfl) ?_
      refine P_op k12 (.v (.one (.val (.int .i64 (w64 ((w64 (x8 + a3)) + ((a1.length : Nat) : Int))))))) (by kernel_rfl) ?_
      refine P_op k12 (.v (.one (.val (.int .i64 ((a1.length : Nat) : Int))))) (by kernel_rfl) ?_
      obtain ⟨g13, hm⟩ := bif_n hm
      refine P_opc k12 (.v (.one (.val (.int .i64 (Int.tmod (w64 ((w64 (x8 + a3)) + ((a1.length : Nat) : Int))) ((a1.length : Nat) : Int)))))) (((a1.length : Nat) : Int) ≠ (0 : Int)) (by kernel_rfl) (nz_of g13) ?_
      refine P_op k12 (.v (.one (.val (.int .i64 (Int.tmod (w64 ((w64 (x8 + a3)) + ((a1.length : Nat) : Int))) ((a1.length : Nat) : Int)))))) (by kernel_rfl) ?_
      refine HOps_end (by kernel_rfl) ?_
      exact HL_enter (ref12_next_L1_S a1 a3 (Int.tmod (w64 ((w64 (x8 + a3)) + ((a1.length : Nat) : Int))) ((a1.length : Nat) : Int))) (by kernel_rfl) (by kernel_rfl) (ih (Int.tmod (w64 ((w64 (x8 + a3)) + ((a1.length : Nat) : Int))) ((a1.length : Nat) : Int)) _ hm)
    · replace hm := bif_f b11 hm
      refine R_exit 0 (by kernel_rfl) ?_
      obtain rfl := Option.some.inj hm
      exact L0_mk (by kernel_rfl) (by kernel_rfl)

set_option maxRecDepth 100000 in
theorem ref12_next_ok (a1 : List Reading) (a2 : Int) (a3 : Int) (r : Int) (hm : ref12_next a1 a2 a3 = some r) : Ct Tryd.prog globs 33 [.one (tl e_Reading default a1), .one (.val (.int .i64 a2)), .one (.val (.int .i64 a3))] (ref12_next_x r) (ref12_next_o r) := by
  unfold ref12_next at hm
  refine Ct_of_H (fn := Tryd.f33) (c := nd Tryd.f33 []) mixed (by kernel_rfl) (by kernel_rfl) (by kernel_rfl) fun w A hg => ?_
  show H ({ P := Tryd.prog, w0 := w, nt := 32, A := A, globs := globs, mixed := mixed, glob := hg } : Ctx) _ _ _
  refine R_seq (nd Tryd.f33 [0]) (nd Tryd.f33 [1]) (by kernel_rfl) ?_
  refine R_region 0 (rg Tryd.f33 [0]) (by kernel_rfl) ?_
  have k4 : opsOk 32 (rg Tryd.f33 [0]) = true := by kernel_rfl
  refine P_op k4 (.v (.one (.val (.int .i64 0)))) (by kernel_rfl) ?_
  refine HOps_end (by kernel_rfl) ?_
  refine R_seq (nd Tryd.f33 [1, 0]) (nd Tryd.f33 [1, 1]) (by kernel_rfl) ?_
  refine R_region 1 (rg Tryd.f33 [1, 0]) (by kernel_rfl) ?_
  have k5 : opsOk 32 (rg Tryd.f33 [1, 0]) = true := by kernel_rfl
  refine P_op k5 (.v (.one (tl e_Reading default a1))) (by kernel_rfl) ?_
  refine P_op k5 (.v (.one (.val (.int .i64 ((a1.length : Nat) : Int))))) (by kernel_rfl) ?_
  refine P_op k5 (.v (.one (.val (.int .i64 ((a1.length : Nat) : Int))))) (by kernel_rfl) ?_
  refine HOps_end (by kernel_rfl) ?_
  refine R_seq (nd Tryd.f33 [1, 1, 0]) (nd Tryd.f33 [1, 1, 1]) (by kernel_rfl) ?_
  refine R_region 2 (rg Tryd.f33 [1, 1, 0]) (by kernel_rfl) ?_
  have k6 : opsOk 32 (rg Tryd.f33 [1, 1, 0]) = true := by kernel_rfl
  refine P_op k6 (.v (.one (.val (.int .i64 a2)))) (by kernel_rfl) ?_
  refine P_op k6 (.v (.one (.val (.int .i64 a3)))) (by kernel_rfl) ?_
  refine P_op k6 (.v (.one (.val (.int .i64 (w64 (a2 + a3)))))) (by kernel_rfl) ?_
  refine P_op k6 (.v (.one (.val (.int .i64 ((a1.length : Nat) : Int))))) (by kernel_rfl) ?_
  refine P_op k6 (.v (.one (.val (.int .i64 (w64 ((w64 (a2 + a3)) + ((a1.length : Nat) : Int))))))) (by kernel_rfl) ?_
  refine P_op k6 (.v (.one (.val (.int .i64 ((a1.length : Nat) : Int))))) (by kernel_rfl) ?_
  obtain ⟨g7, hm⟩ := bif_n hm
  refine P_opc k6 (.v (.one (.val (.int .i64 (Int.tmod (w64 ((w64 (a2 + a3)) + ((a1.length : Nat) : Int))) ((a1.length : Nat) : Int)))))) (((a1.length : Nat) : Int) ≠ (0 : Int)) (by kernel_rfl) (nz_of g7) ?_
  refine P_op k6 (.v (.one (.val (.int .i64 (Int.tmod (w64 ((w64 (a2 + a3)) + ((a1.length : Nat) : Int))) ((a1.length : Nat) : Int)))))) (by kernel_rfl) ?_
  refine HOps_end (by kernel_rfl) ?_
  refine R_seq (nd Tryd.f33 [1, 1, 1, 0]) (nd Tryd.f33 [1, 1, 1, 1]) (by kernel_rfl) ?_
  obtain ⟨o15, h16, hm⟩ := bind_s hm
  refine R_loop0 (nd Tryd.f33 [1, 1, 1, 0, 0, 0]) 0 (by kernel_rfl) FUEL (fun o => ref12_next_L1_T o) o15 (HL_enter (ref12_next_L1_S a1 a3 (Int.tmod (w64 ((w64 (a2 + a3)) + ((a1.length : Nat) : Int))) ((a1.length : Nat) : Int))) (by kernel_rfl) (by kernel_rfl) (ref12_next_L1_ok w A hg a1 a3 FUEL (Int.tmod (w64 ((w64 (a2 + a3)) + ((a1.length : Nat) : Int))) ((a1.length : Nat) : Int)) o15 h16)) ?_
  refine R_seq (nd Tryd.f33 [1, 1, 1, 1, 0]) (nd Tryd.f33 [1, 1, 1, 1, 1]) (by kernel_rfl) ?_
  refine R_region 5 (rg Tryd.f33 [1, 1, 1, 1, 0]) (by kernel_rfl) ?_
  have k17 : opsOk 32 (rg Tryd.f33 [1, 1, 1, 1, 0]) = true := by kernel_rfl
  refine P_op k17 (.v (.one (.val (.int .i64 o15)))) (by kernel_rfl) ?_
  refine P_op k17 (.v (.one (.val (.int .i64 o15)))) (by kernel_rfl) ?_
  refine HOps_end (by kernel_rfl) ?_
  obtain rfl := Option.some.inj hm
  refine R_ret (by kernel_rfl) ?_
  exact ret_mk (by kernel_rfl) (by kernel_rfl)

end Saw
end Go.SL
