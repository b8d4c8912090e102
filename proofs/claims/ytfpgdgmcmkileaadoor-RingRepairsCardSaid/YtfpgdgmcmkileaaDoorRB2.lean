import Derived.Test.YtfpgdgmcmkileaaDoorRBase
set_option linter.unusedVariables false
set_option linter.unusedSimpArgs false
namespace Go.SL
namespace Saw
open Go.Proofs
set_option maxHeartbeats 4000000

def ref12_Gaps_x (r : Int × Int) : V := .tup [.one (.val (.int .i64 r.1)), .one (.val (.int .i64 r.2))]

def ref12_Gaps_o (r : Int × Int) : List (Nat × (Nat × O)) := []

theorem ref12_Gaps_f (r : Int × Int) : Frozen (ref12_Gaps_o r) := by
  intro i k o h
  unfold ref12_Gaps_o at h
  cases h

def ref12_Gaps_k3_S (a1 : Ring) (x6 : Int) (x7 : Int) (x8 : Int) (x16 : Int) (x20 : Bool) : St :=
  { slots := [(1, .v (.one (.bptr 1 0 0))), (4, .v (.one (.val (.int .i64 ((a1.Read.length : Nat) : Int))))), (5, .v (.one (.val (.int .i64 (w64 (x6 + 1)))))), (6, .v (.one (.val (.int .i64 x7)))), (7, .v (.one (.val (.int .i64 x8)))), (8, .v (.one (.val (.int .i64 x16)))), (40, .v (.one (.val (.bool x20))))], objs := [(1, (0, .box 24 [.val (.int .i64 a1.Z), tl e_Reading default a1.Read]))] }

def ref12_Gaps_L2_S (a1 : Ring) (x6 : Int) (x7 : Int) (x8 : Int) (x16 : Int) : St :=
  { slots := [(1, .v (.one (.bptr 1 0 0))), (4, .v (.one (.val (.int .i64 ((a1.Read.length : Nat) : Int))))), (5, .v (.one (.val (.int .i64 (w64 (x6 + 1)))))), (6, .v (.one (.val (.int .i64 x7)))), (7, .v (.one (.val (.int .i64 x8)))), (8, .v (.one (.val (.int .i64 x16))))], objs := [(1, (0, .box 24 [.val (.int .i64 a1.Z), tl e_Reading default a1.Read]))] }

def ref12_Gaps_L2_T (a1 : Ring) (x6 : Int) (x7 : Int) (x8 : Int) (x23 : Int) : St :=
  { slots := [(1, .v (.one (.bptr 1 0 0))), (4, .v (.one (.val (.int .i64 ((a1.Read.length : Nat) : Int))))), (5, .v (.one (.val (.int .i64 (w64 (x6 + 1)))))), (6, .v (.one (.val (.int .i64 x7)))), (7, .v (.one (.val (.int .i64 x8)))), (8, .v (.one (.val (.int .i64 x23))))], objs := [(1, (0, .box 24 [.val (.int .i64 a1.Z), tl e_Reading default a1.Read]))] }

def ref12_Gaps_k4_S (a1 : Ring) (x8 : Int) (x27 : Int) (x28 : Int) : St :=
  { slots := [(1, .v (.one (.bptr 1 0 0))), (4, .v (.one (.val (.int .i64 ((a1.Read.length : Nat) : Int))))), (5, .v (.one (.val (.int .i64 x27)))), (6, .v (.one (.val (.int .i64 x28)))), (7, .v (.one (.val (.int .i64 x8))))], objs := [(1, (0, .box 24 [.val (.int .i64 a1.Z), tl e_Reading default a1.Read]))] }

def ref12_Gaps_L1_S (a1 : Ring) (x6 : Int) (x7 : Int) (x8 : Int) : St :=
  { slots := [(1, .v (.one (.bptr 1 0 0))), (4, .v (.one (.val (.int .i64 ((a1.Read.length : Nat) : Int))))), (5, .v (.one (.val (.int .i64 x6)))), (6, .v (.one (.val (.int .i64 x7)))), (7, .v (.one (.val (.int .i64 x8))))], objs := [(1, (0, .box 24 [.val (.int .i64 a1.Z), tl e_Reading default a1.Read]))] }

def ref12_Gaps_L1_T (x30 : Int) (x31 : Int) : St :=
  { slots := [(5, .v (.one (.val (.int .i64 x30)))), (6, .v (.one (.val (.int .i64 x31))))], objs := [] }

set_option maxRecDepth 100000 in
theorem ref12_Gaps_L2_ok (w : World) (A : Nat → Prop) (hg : Globs globs w A) (a1 : Ring) (x6 : Int) (x7 : Int) (x8 : Int) : ∀ (n : Nat) (x16 : Int) (res : Int), ref12_Gaps_L2 a1 x8 n x16 = some res → HL ({ P := Tryd.prog, w0 := w, nt := 48, A := A, globs := globs, mixed := mixed, glob := hg } : Ctx) (nd Tryd.f13 [1, 1, 1, 0, 1, 0, 0, 1, 0, 0, 1, 1, 1, 0, 0, 0]) (loopQ0 2 (fun o => ref12_Gaps_L2_T a1 x6 x7 x8 o) res) n (ref12_Gaps_L2_S a1 x6 x7 x8 x16) := by
  intro n
  induction n with
  | zero =>
    intro x16 res hm
    cases hm
  | succ n ih =>
    intro x16 res hm
    refine HL_succ ?_
    refine R_seq (nd Tryd.f13 [1, 1, 1, 0, 1, 0, 0, 1, 0, 0, 1, 1, 1, 0, 0, 0, 0]) (nd Tryd.f13 [1, 1, 1, 0, 1, 0, 0, 1, 0, 0, 1, 1, 1, 0, 0, 0, 1]) (by kernel_rfl) ?_
    refine R_join (ι := Bool) (nd Tryd.f13 [1, 1, 1, 0, 1, 0, 0, 1, 0, 0, 1, 1, 1, 0, 0, 0, 0, 0]) (nd Tryd.f13 [1, 1, 1, 0, 1, 0, 0, 1, 0, 0, 1, 1, 1, 0, 0, 0, 0, 1]) (by kernel_rfl) (fun p => ref12_Gaps_k3_S a1 x6 x7 x8 x16 p) (fun p => ref12_Gaps_k3 x16 (ref12_Gaps_L2 a1 x8 n) p = some res) ?_ ?_
    · rintro x20 hm
      show H _ (ref12_Gaps_k3_S a1 x6 x7 x8 x16 x20) (nd Tryd.f13 [1, 1, 1, 0, 1, 0, 0, 1, 0, 0, 1, 1, 1, 0, 0, 0, 0, 1]) _
      refine R_cond (.tmp 40) (nd Tryd.f13 [1, 1, 1, 0, 1, 0, 0, 1, 0, 0, 1, 1, 1, 0, 0, 0, 0, 1, 0]) (nd Tryd.f13 [1, 1, 1, 0, 1, 0, 0, 1, 0, 0, 1, 1, 1, 0, 0, 0, 0, 1, 1]) (by kernel_rfl) x20 (by kernel_rfl) (fun b21 => ?_) (fun b21 => ?_)
      · replace hm := bif_t b21 hm
        refine R_skip (by kernel_rfl) ?_
        refine R_block 3 (nd Tryd.f13 [1, 1, 1, 0, 1, 0, 0, 1, 0, 0, 1, 1, 1, 0, 0, 0, 1, 0]) (by kernel_rfl) ?_
        refine R_region 10 (rg Tryd.f13 [1, 1, 1, 0, 1, 0, 0, 1, 0, 0, 1, 1, 1, 0, 0, 0, 1, 0]) (by kernel_rfl) ?_
        have k22 : opsOk 48 (rg Tryd.f13 [1, 1, 1, 0, 1, 0, 0, 1, 0, 0, 1, 1, 1, 0, 0, 0, 1, 0]) = true := by kernel_rfl
        refine P_op k22 (.v (.one (.val (.int .i64 x16)))) (by kernel_rfl) ?_
        refine P_op k22 (.v (.one (.val (.int .i64 (w64 (x16 + 1)))))) (by kernel_rfl) ?_
        refine P_op k22 (.v (.one (.val (.int .i64 (w64 (x16 + 1)))))) (by kernel_rfl) ?_
        refine HOps_end (by kernel_rfl) ?_
        exact HL_enter (ref12_Gaps_L2_S a1 x6 x7 x8 (w64 (x16 + 1))) (by kernel_rfl) (by kernel_rfl) (ih (w64 (x16 + 1)) _ hm)
      · replace hm := bif_f b21 hm
        refine R_exit 2 (by kernel_rfl) ?_
        obtain rfl := Option.some.inj hm
        exact L0_mk (by kernel_rfl) (by kernel_rfl)
    · rcases Bool.eq_false_or_eq_true (decide (x16 < ((a1.Read.length : Nat) : Int))) with b17 | b17
      · replace hm := bif_t b17 hm
        obtain ⟨g18, hm⟩ := bif_n hm
        obtain ⟨g19, hm⟩ := bif_n hm
        refine R_draw 9 (rg Tryd.f13 [1, 1, 1, 0, 1, 0, 0, 1, 0, 0, 1, 1, 1, 0, 0, 0, 0, 0]) (by kernel_rfl) [⟨true, .v (.one (.val (.int .i64 x16))), [], [], [8], []⟩, ⟨true, .v (.one (.val (.int .i64 ((a1.Read.length : Nat) : Int)))), [], [], [4], []⟩, ⟨true, .v (.one (.val (.bool (decide (x16 < ((a1.Read.length : Nat) : Int)))))), [], [], [25, 26], []⟩, ⟨true, boolV true, [], [], [27], []⟩, ⟨true, .v (.one (.bptr 1 0 1)), [], [], [1, 28], []⟩, ⟨true, .v (.one (tl e_Reading default a1.Read)), [], [], [28, 29], [1]⟩, ⟨true, .v (.one (.val (.int .i64 x8))), [], [], [7, 28], []⟩, ⟨true, .v (.one (.val (.int .i64 x16))), [], [], [8, 28], []⟩, ⟨true, .v (.one (.val (.int .i64 (w64 (x8 + x16))))), [], [], [28, 31, 32], []⟩, ⟨true, .v (.one (.val (.int .i64 ((a1.Read.length : Nat) : Int)))), [], [], [4, 28], []⟩, ⟨true, .v (.one (.val (.int .i64 (Int.tmod (w64 (x8 + x16)) ((a1.Read.length : Nat) : Int))))), [], [], [28, 33, 34], []⟩, ⟨true, .v (.one (.lptr (e_Reading (a1.Read.getD (Int.tmod (w64 (x8 + x16)) ((a1.Read.length : Nat) : Int)).toNat default)))), [], [], [28, 30, 35], []⟩, ⟨true, .v (.one (.lptr ((e_Reading (a1.Read.getD (Int.tmod (w64 (x8 + x16)) ((a1.Read.length : Nat) : Int)).toNat default)).drop 2))), [], [], [28, 36], []⟩, ⟨true, .v (.one (.val (.bool ((a1.Read.getD (Int.tmod (w64 (x8 + x16)) ((a1.Read.length : Nat) : Int)).toNat default).Ok)))), [], [], [28, 37], []⟩, ⟨true, .v (.one (.val (.bool (!((a1.Read.getD (Int.tmod (w64 (x8 + x16)) ((a1.Read.length : Nat) : Int)).toNat default).Ok))))), [], [], [28, 38], []⟩, ⟨true, .v (.one (.val (.bool (!((a1.Read.getD (Int.tmod (w64 (x8 + x16)) ((a1.Read.length : Nat) : Int)).toNat default).Ok))))), [], [], [28, 39], []⟩] [0, 0, 3, 7, 15, 31, 15, 15, 207, 15, 975, 2047, 4095, 8191, 16383, 32767] (by kernel_rfl) (by kernel_rfl) (by kernel_rfl) (by kernel_rfl) (by kernel_rfl) (by kernel_rfl) ?_ ?_
        · refine A_pure (.v (.one (.val (.int .i64 x16)))) [8] [] (True) (by kernel_rfl) trivial ?_
          refine A_pure (.v (.one (.val (.int .i64 ((a1.Read.length : Nat) : Int))))) [4] [] (True) (by kernel_rfl) trivial ?_
          refine A_pure (.v (.one (.val (.bool (decide (x16 < ((a1.Read.length : Nat) : Int))))))) [25, 26] [] (True) (by kernel_rfl) trivial ?_
          refine A_pureE (boolV true) (boolV (decide (x16 < ((a1.Read.length : Nat) : Int)))) (congrArg boolV b17) [27] [] (True) (by kernel_rfl) trivial ?_
          refine A_pure (.v (.one (.bptr 1 0 1))) [1, 28] [] (True) (by kernel_rfl) trivial ?_
          refine A_pure (.v (.one (tl e_Reading default a1.Read))) [28, 29] [1] (True) (by kernel_rfl) trivial ?_
          refine A_pure (.v (.one (.val (.int .i64 x8)))) [7, 28] [] (True) (by kernel_rfl) trivial ?_
          refine A_pure (.v (.one (.val (.int .i64 x16)))) [8, 28] [] (True) (by kernel_rfl) trivial ?_
          refine A_pure (.v (.one (.val (.int .i64 (w64 (x8 + x16)))))) [28, 31, 32] [] (True) (by kernel_rfl) trivial ?_
          refine A_pure (.v (.one (.val (.int .i64 ((a1.Read.length : Nat) : Int))))) [4, 28] [] (True) (by kernel_rfl) trivial ?_
          refine A_pure (.v (.one (.val (.int .i64 (Int.tmod (w64 (x8 + x16)) ((a1.Read.length : Nat) : Int)))))) [28, 33, 34] [] (((a1.Read.length : Nat) : Int) ≠ (0 : Int)) (by kernel_rfl) (nz_of g18) ?_
          refine A_pure (.v (.one (.lptr (e_Reading (a1.Read.getD (Int.tmod (w64 (x8 + x16)) ((a1.Read.length : Nat) : Int)).toNat default))))) [28, 30, 35] [] (0 ≤ (Int.tmod (w64 (x8 + x16)) ((a1.Read.length : Nat) : Int)) ∧ (Int.tmod (w64 (x8 + x16)) ((a1.Read.length : Nat) : Int)) < ((a1.Read.length : Nat) : Int)) (by kernel_rfl) (inb_of g19) ?_
          refine A_pure (.v (.one (.lptr ((e_Reading (a1.Read.getD (Int.tmod (w64 (x8 + x16)) ((a1.Read.length : Nat) : Int)).toNat default)).drop 2)))) [28, 36] [] (True) (by kernel_rfl) trivial ?_
          refine A_pure (.v (.one (.val (.bool ((a1.Read.getD (Int.tmod (w64 (x8 + x16)) ((a1.Read.length : Nat) : Int)).toNat default).Ok))))) [28, 37] [] (True) (by kernel_rfl) trivial ?_
          refine A_pure (.v (.one (.val (.bool (!((a1.Read.getD (Int.tmod (w64 (x8 + x16)) ((a1.Read.length : Nat) : Int)).toNat default).Ok)))))) [28, 38] [] (True) (by kernel_rfl) trivial ?_
          refine A_pure (.v (.one (.val (.bool (!((a1.Read.getD (Int.tmod (w64 (x8 + x16)) ((a1.Read.length : Nat) : Int)).toNat default).Ok)))))) [28, 39] [] (True) (by kernel_rfl) trivial ?_
          exact A_end
        · exact J_mk (!((a1.Read.getD (Int.tmod (w64 (x8 + x16)) ((a1.Read.length : Nat) : Int)).toNat default).Ok)) hm (by kernel_rfl) (by kernel_rfl)
      · replace hm := bif_f b17 hm
        refine R_draw 9 (rg Tryd.f13 [1, 1, 1, 0, 1, 0, 0, 1, 0, 0, 1, 1, 1, 0, 0, 0, 0, 0]) (by kernel_rfl) [⟨true, .v (.one (.val (.int .i64 x16))), [], [], [8], []⟩, ⟨true, .v (.one (.val (.int .i64 ((a1.Read.length : Nat) : Int)))), [], [], [4], []⟩, ⟨true, .v (.one (.val (.bool (decide (x16 < ((a1.Read.length : Nat) : Int)))))), [], [], [25, 26], []⟩, ⟨true, boolV false, [], [], [27], []⟩, ⟨false, .undef, [], [], [28], []⟩, ⟨false, .undef, [], [], [28], []⟩, ⟨false, .undef, [], [], [28], []⟩, ⟨false, .undef, [], [], [28], []⟩, ⟨false, .undef, [], [], [28], []⟩, ⟨false, .undef, [], [], [28], []⟩, ⟨false, .undef, [], [], [28], []⟩, ⟨false, .undef, [], [], [28], []⟩, ⟨false, .undef, [], [], [28], []⟩, ⟨false, .undef, [], [], [28], []⟩, ⟨false, .undef, [], [], [28], []⟩, ⟨true, .v (.one (.val (.bool false))), [], [], [28, 39], []⟩] [0, 0, 3, 7, 15, 31, 15, 15, 207, 15, 975, 2047, 4095, 8191, 16383, 32767] (by kernel_rfl) (by kernel_rfl) (by kernel_rfl) (by kernel_rfl) (by kernel_rfl) (by kernel_rfl) ?_ ?_
        · refine A_pure (.v (.one (.val (.int .i64 x16)))) [8] [] (True) (by kernel_rfl) trivial ?_
          refine A_pure (.v (.one (.val (.int .i64 ((a1.Read.length : Nat) : Int))))) [4] [] (True) (by kernel_rfl) trivial ?_
          refine A_pure (.v (.one (.val (.bool (decide (x16 < ((a1.Read.length : Nat) : Int))))))) [25, 26] [] (True) (by kernel_rfl) trivial ?_
          refine A_pureE (boolV false) (boolV (decide (x16 < ((a1.Read.length : Nat) : Int)))) (congrArg boolV b17) [27] [] (True) (by kernel_rfl) trivial ?_
          refine A_skip [28] (by kernel_rfl) ?_
          refine A_skip [28] (by kernel_rfl) ?_
          refine A_skip [28] (by kernel_rfl) ?_
          refine A_skip [28] (by kernel_rfl) ?_
          refine A_skip [28] (by kernel_rfl) ?_
          refine A_skip [28] (by kernel_rfl) ?_
          refine A_skip [28] (by kernel_rfl) ?_
          refine A_skip [28] (by kernel_rfl) ?_
          refine A_skip [28] (by kernel_rfl) ?_
          refine A_skip [28] (by kernel_rfl) ?_
          refine A_skip [28] (by kernel_rfl) ?_
          refine A_pure (.v (.one (.val (.bool false)))) [28, 39] [] (True) (by kernel_rfl) trivial ?_
          exact A_end
        · exact J_mk (false) hm (by kernel_rfl) (by kernel_rfl)

set_option maxRecDepth 100000 in
theorem ref12_Gaps_L1_ok (w : World) (A : Nat → Prop) (hg : Globs globs w A) (a1 : Ring) : ∀ (n : Nat) (x6 : Int) (x7 : Int) (x8 : Int) (res : Int × Int), ref12_Gaps_L1 a1 n x6 x7 x8 = some res → HL ({ P := Tryd.prog, w0 := w, nt := 48, A := A, globs := globs, mixed := mixed, glob := hg } : Ctx) (nd Tryd.f13 [1, 1, 1, 0, 1, 0, 0]) (loopQ0 0 (fun o => ref12_Gaps_L1_T o.1 o.2) res) n (ref12_Gaps_L1_S a1 x6 x7 x8) := by
  intro n
  induction n with
  | zero =>
    intro x6 x7 x8 res hm
    cases hm
  | succ n ih =>
    intro x6 x7 x8 res hm
    refine HL_succ ?_
    refine R_seq (nd Tryd.f13 [1, 1, 1, 0, 1, 0, 0, 0]) (nd Tryd.f13 [1, 1, 1, 0, 1, 0, 0, 1]) (by kernel_rfl) ?_
    refine R_seq (nd Tryd.f13 [1, 1, 1, 0, 1, 0, 0, 0, 0]) (nd Tryd.f13 [1, 1, 1, 0, 1, 0, 0, 0, 1]) (by kernel_rfl) ?_
    refine R_region 4 (rg Tryd.f13 [1, 1, 1, 0, 1, 0, 0, 0, 0]) (by kernel_rfl) ?_
    have k9 : opsOk 48 (rg Tryd.f13 [1, 1, 1, 0, 1, 0, 0, 0, 0]) = true := by kernel_rfl
    refine P_op k9 (.v (.one (.val (.int .i64 x8)))) (by kernel_rfl) ?_
    refine P_op k9 (.v (.one (.val (.int .i64 ((a1.Read.length : Nat) : Int))))) (by kernel_rfl) ?_
    refine P_op k9 (.v (.one (.val (.bool (decide (x8 < ((a1.Read.length : Nat) : Int))))))) (by kernel_rfl) ?_
    refine HOps_end (by kernel_rfl) ?_
    refine R_cond (.tmp 14) (nd Tryd.f13 [1, 1, 1, 0, 1, 0, 0, 0, 1, 0]) (nd Tryd.f13 [1, 1, 1, 0, 1, 0, 0, 0, 1, 1]) (by kernel_rfl) (decide (x8 < ((a1.Read.length : Nat) : Int))) (by kernel_rfl) (fun b10 => ?_) (fun b10 => ?_)
    · replace hm := bif_t b10 hm
      refine R_skip (by kernel_rfl) ?_
      refine R_join (ι := Int × Int) (nd Tryd.f13 [1, 1, 1, 0, 1, 0, 0, 1, 0]) (nd Tryd.f13 [1, 1, 1, 0, 1, 0, 0, 1, 1]) (by kernel_rfl) (fun p => ref12_Gaps_k4_S a1 x8 p.1 p.2) (fun p => ref12_Gaps_k4 x8 (ref12_Gaps_L1 a1 n) p.1 p.2 = some res) ?_ ?_
      · rintro ⟨x27, x28⟩ hm
        show H _ (ref12_Gaps_k4_S a1 x8 x27 x28) (nd Tryd.f13 [1, 1, 1, 0, 1, 0, 0, 1, 1]) _
        refine R_region 5 (rg Tryd.f13 [1, 1, 1, 0, 1, 0, 0, 1, 1]) (by kernel_rfl) ?_
        have k29 : opsOk 48 (rg Tryd.f13 [1, 1, 1, 0, 1, 0, 0, 1, 1]) = true := by kernel_rfl
        refine P_op k29 (.v (.one (.val (.int .i64 x8)))) (by kernel_rfl) ?_
        refine P_op k29 (.v (.one (.val (.int .i64 (w64 (x8 + 1)))))) (by kernel_rfl) ?_
        refine P_op k29 (.v (.one (.val (.int .i64 (w64 (x8 + 1)))))) (by kernel_rfl) ?_
        refine HOps_end (by kernel_rfl) ?_
        exact HL_enter (ref12_Gaps_L1_S a1 x27 x28 (w64 (x8 + 1))) (by kernel_rfl) (by kernel_rfl) (ih x27 x28 (w64 (x8 + 1)) _ hm)
      · refine R_block 1 (nd Tryd.f13 [1, 1, 1, 0, 1, 0, 0, 1, 0, 0]) (by kernel_rfl) ?_
        refine R_seq (nd Tryd.f13 [1, 1, 1, 0, 1, 0, 0, 1, 0, 0, 0]) (nd Tryd.f13 [1, 1, 1, 0, 1, 0, 0, 1, 0, 0, 1]) (by kernel_rfl) ?_
        refine R_seq (nd Tryd.f13 [1, 1, 1, 0, 1, 0, 0, 1, 0, 0, 0, 0]) (nd Tryd.f13 [1, 1, 1, 0, 1, 0, 0, 1, 0, 0, 0, 1]) (by kernel_rfl) ?_
        refine R_region 6 (rg Tryd.f13 [1, 1, 1, 0, 1, 0, 0, 1, 0, 0, 0, 0]) (by kernel_rfl) ?_
        have k11 : opsOk 48 (rg Tryd.f13 [1, 1, 1, 0, 1, 0, 0, 1, 0, 0, 0, 0]) = true := by kernel_rfl
        refine P_op k11 (.v (.one (.bptr 1 0 1))) (by kernel_rfl) ?_
        refine P_op k11 (.v (.one (tl e_Reading default a1.Read))) (by kernel_rfl) ?_
        refine P_op k11 (.v (.one (.val (.int .i64 x8)))) (by kernel_rfl) ?_
        obtain ⟨g12, hm⟩ := bif_n hm
        refine P_opc k11 (.v (.one (.lptr (e_Reading (a1.Read.getD x8.toNat default))))) (0 ≤ x8 ∧ x8 < ((a1.Read.length : Nat) : Int)) (by kernel_rfl) (inb_of g12) ?_
        refine P_op k11 (.v (.one (.lptr ((e_Reading (a1.Read.getD x8.toNat default)).drop 2)))) (by kernel_rfl) ?_
        refine P_op k11 (.v (.one (.val (.bool ((a1.Read.getD x8.toNat default).Ok))))) (by kernel_rfl) ?_
        refine HOps_end (by kernel_rfl) ?_
        refine R_cond (.tmp 22) (nd Tryd.f13 [1, 1, 1, 0, 1, 0, 0, 1, 0, 0, 0, 1, 0]) (nd Tryd.f13 [1, 1, 1, 0, 1, 0, 0, 1, 0, 0, 0, 1, 1]) (by kernel_rfl) ((a1.Read.getD x8.toNat default).Ok) (by kernel_rfl) (fun b13 => ?_) (fun b13 => ?_)
        · replace hm := bif_t b13 hm
          refine R_exit 1 (by kernel_rfl) ?_
          exact J_mk (x6, x7) hm (by kernel_rfl) (by kernel_rfl)
        · replace hm := bif_f b13 hm
          refine R_skip (by kernel_rfl) ?_
          refine R_seq (nd Tryd.f13 [1, 1, 1, 0, 1, 0, 0, 1, 0, 0, 1, 0]) (nd Tryd.f13 [1, 1, 1, 0, 1, 0, 0, 1, 0, 0, 1, 1]) (by kernel_rfl) ?_
          refine R_region 7 (rg Tryd.f13 [1, 1, 1, 0, 1, 0, 0, 1, 0, 0, 1, 0]) (by kernel_rfl) ?_
          have k14 : opsOk 48 (rg Tryd.f13 [1, 1, 1, 0, 1, 0, 0, 1, 0, 0, 1, 0]) = true := by kernel_rfl
          refine P_op k14 (.v (.one (.val (.int .i64 x6)))) (by kernel_rfl) ?_
          refine P_op k14 (.v (.one (.val (.int .i64 (w64 (x6 + 1)))))) (by kernel_rfl) ?_
          refine P_op k14 (.v (.one (.val (.int .i64 (w64 (x6 + 1)))))) (by kernel_rfl) ?_
          refine HOps_end (by kernel_rfl) ?_
          refine R_seq (nd Tryd.f13 [1, 1, 1, 0, 1, 0, 0, 1, 0, 0, 1, 1, 0]) (nd Tryd.f13 [1, 1, 1, 0, 1, 0, 0, 1, 0, 0, 1, 1, 1]) (by kernel_rfl) ?_
          refine R_region 8 (rg Tryd.f13 [1, 1, 1, 0, 1, 0, 0, 1, 0, 0, 1, 1, 0]) (by kernel_rfl) ?_
          have k15 : opsOk 48 (rg Tryd.f13 [1, 1, 1, 0, 1, 0, 0, 1, 0, 0, 1, 1, 0]) = true := by kernel_rfl
          refine P_op k15 (.v (.one (.val (.int .i64 0)))) (by kernel_rfl) ?_
          refine HOps_end (by kernel_rfl) ?_
          refine R_seq (nd Tryd.f13 [1, 1, 1, 0, 1, 0, 0, 1, 0, 0, 1, 1, 1, 0]) (nd Tryd.f13 [1, 1, 1, 0, 1, 0, 0, 1, 0, 0, 1, 1, 1, 1]) (by kernel_rfl) ?_
          obtain ⟨o24, h25, hm⟩ := bind_s hm
          refine R_loop0 (nd Tryd.f13 [1, 1, 1, 0, 1, 0, 0, 1, 0, 0, 1, 1, 1, 0, 0, 0]) 2 (by kernel_rfl) FUEL (fun o => ref12_Gaps_L2_T a1 x6 x7 x8 o) o24 (HL_enter (ref12_Gaps_L2_S a1 x6 x7 x8 0) (by kernel_rfl) (by kernel_rfl) (ref12_Gaps_L2_ok w A hg a1 x6 x7 x8 FUEL 0 o24 h25)) ?_
          refine R_region 11 (rg Tryd.f13 [1, 1, 1, 0, 1, 0, 0, 1, 0, 0, 1, 1, 1, 1]) (by kernel_rfl) ?_
          have k26 : opsOk 48 (rg Tryd.f13 [1, 1, 1, 0, 1, 0, 0, 1, 0, 0, 1, 1, 1, 1]) = true := by kernel_rfl
          refine P_op k26 (.v (.one (.val (.int .i64 x7)))) (by kernel_rfl) ?_
          refine P_op k26 (.v (.one (.val (.int .i64 o24)))) (by kernel_rfl) ?_
          refine P_op k26 (.v (.one (.val (.int .i64 (imax x7 o24))))) (by kernel_rfl) ?_
          refine P_op k26 (.v (.one (.val (.int .i64 (imax x7 o24))))) (by kernel_rfl) ?_
          refine HOps_end (by kernel_rfl) ?_
          exact J_mk (w64 (x6 + 1), imax x7 o24) hm (by kernel_rfl) (by kernel_rfl)
    · replace hm := bif_f b10 hm
      refine R_exit 0 (by kernel_rfl) ?_
      obtain rfl := Option.some.inj hm
      exact L0_mk (by kernel_rfl) (by kernel_rfl)

set_option maxRecDepth 100000 in
theorem ref12_Gaps_ok (a1 : Ring) (r : Int × Int) (hm : ref12_Gaps a1 = some r) : Ct Tryd.prog globs 13 [.agg [.val (.int .i64 a1.Z), tl e_Reading default a1.Read]] (ref12_Gaps_x r) (ref12_Gaps_o r) := by
  unfold ref12_Gaps at hm
  refine Ct_of_H (fn := Tryd.f13) (c := nd Tryd.f13 []) mixed (by kernel_rfl) (by kernel_rfl) (by kernel_rfl) fun w A hg => ?_
  show H ({ P := Tryd.prog, w0 := w, nt := 48, A := A, globs := globs, mixed := mixed, glob := hg } : Ctx) _ _ _
  refine R_seq (nd Tryd.f13 [0]) (nd Tryd.f13 [1]) (by kernel_rfl) ?_
  refine R_region 0 (rg Tryd.f13 [0]) (by kernel_rfl) ?_
  have k2 : opsOk 48 (rg Tryd.f13 [0]) = true := by kernel_rfl
  refine P_step k2 ([(1, 0)]) ([(1, (0, .box 24 [.val (.int .i64 a1.Z), tl e_Reading default a1.Read]))]) (.v (.one (.bptr 1 0 0))) (by kernel_rfl) (Step_box 24 (.tmp 0) 1 0 (.agg [.val (.int .i64 a1.Z), tl e_Reading default a1.Read]) (by kernel_rfl) (by kernel_rfl) (by kernel_rfl)) ?_
  refine P_op k2 (.v (.one (.val (.int .i64 0)))) (by kernel_rfl) ?_
  refine P_op k2 (.v (.one (.val (.int .i64 0)))) (by kernel_rfl) ?_
  refine HOps_end (by kernel_rfl) ?_
  refine R_seq (nd Tryd.f13 [1, 0]) (nd Tryd.f13 [1, 1]) (by kernel_rfl) ?_
  refine R_region 1 (rg Tryd.f13 [1, 0]) (by kernel_rfl) ?_
  have k3 : opsOk 48 (rg Tryd.f13 [1, 0]) = true := by kernel_rfl
  refine P_op k3 (.v (.one (.bptr 1 0 1))) (by kernel_rfl) ?_
  refine P_op k3 (.v (.one (tl e_Reading default a1.Read))) (by kernel_rfl) ?_
  refine P_op k3 (.v (.one (.val (.int .i64 ((a1.Read.length : Nat) : Int))))) (by kernel_rfl) ?_
  refine P_op k3 (.v (.one (.val (.int .i64 ((a1.Read.length : Nat) : Int))))) (by kernel_rfl) ?_
  refine HOps_end (by kernel_rfl) ?_
  refine R_seq (nd Tryd.f13 [1, 1, 0]) (nd Tryd.f13 [1, 1, 1]) (by kernel_rfl) ?_
  refine R_region 2 (rg Tryd.f13 [1, 1, 0]) (by kernel_rfl) ?_
  have k4 : opsOk 48 (rg Tryd.f13 [1, 1, 0]) = true := by kernel_rfl
  refine P_op k4 (.v (.one (.val (.int .i64 0)))) (by kernel_rfl) ?_
  refine P_op k4 (.v (.one (.val (.int .i64 0)))) (by kernel_rfl) ?_
  refine HOps_end (by kernel_rfl) ?_
  refine R_seq (nd Tryd.f13 [1, 1, 1, 0]) (nd Tryd.f13 [1, 1, 1, 1]) (by kernel_rfl) ?_
  refine R_seq (nd Tryd.f13 [1, 1, 1, 0, 0]) (nd Tryd.f13 [1, 1, 1, 0, 1]) (by kernel_rfl) ?_
  refine R_region 3 (rg Tryd.f13 [1, 1, 1, 0, 0]) (by kernel_rfl) ?_
  have k5 : opsOk 48 (rg Tryd.f13 [1, 1, 1, 0, 0]) = true := by kernel_rfl
  refine P_op k5 (.v (.one (.val (.int .i64 0)))) (by kernel_rfl) ?_
  refine HOps_end (by kernel_rfl) ?_
  obtain ⟨o32, h33, hm⟩ := bind_s hm
  refine R_loop0 (nd Tryd.f13 [1, 1, 1, 0, 1, 0, 0]) 0 (by kernel_rfl) FUEL (fun o => ref12_Gaps_L1_T o.1 o.2) o32 (HL_enter (ref12_Gaps_L1_S a1 0 0 0) (by kernel_rfl) (by kernel_rfl) (ref12_Gaps_L1_ok w A hg a1 FUEL 0 0 0 o32 h33)) ?_
  refine R_seq (nd Tryd.f13 [1, 1, 1, 1, 0]) (nd Tryd.f13 [1, 1, 1, 1, 1]) (by kernel_rfl) ?_
  refine R_region 12 (rg Tryd.f13 [1, 1, 1, 1, 0]) (by kernel_rfl) ?_
  have k34 : opsOk 48 (rg Tryd.f13 [1, 1, 1, 1, 0]) = true := by kernel_rfl
  refine P_op k34 (.v (.one (.val (.int .i64 o32.1)))) (by kernel_rfl) ?_
  refine P_op k34 (.v (.one (.val (.int .i64 o32.2)))) (by kernel_rfl) ?_
  refine P_op k34 (.v (.one (.val (.int .i64 o32.1)))) (by kernel_rfl) ?_
  refine P_op k34 (.v (.one (.val (.int .i64 o32.2)))) (by kernel_rfl) ?_
  refine HOps_end (by kernel_rfl) ?_
  obtain rfl := Option.some.inj hm
  refine R_ret (by kernel_rfl) ?_
  exact ret_mk (by kernel_rfl) (by kernel_rfl)

end Saw
end Go.SL
