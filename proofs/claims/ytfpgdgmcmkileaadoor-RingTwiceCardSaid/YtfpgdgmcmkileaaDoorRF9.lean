import Derived.Test.YtfpgdgmcmkileaaDoorRBase
import Derived.Test.YtfpgdgmcmkileaaDoorRA5
import Derived.Test.YtfpgdgmcmkileaaDoorRA1
import Derived.Test.YtfpgdgmcmkileaaDoorRA4
import Derived.Test.YtfpgdgmcmkileaaDoorRA2
set_option linter.unusedVariables false
set_option linter.unusedSimpArgs false
namespace Go.SL
namespace Saw
open Go.Proofs
set_option maxHeartbeats 4000000

def law12_RingTwice_x (r : Bool) : V := .v (.one (.val (.bool r)))

def law12_RingTwice_o (r : Bool) : List (Nat × (Nat × O)) := []

theorem law12_RingTwice_f (r : Bool) : Frozen (law12_RingTwice_o r) := by
  intro i k o h
  unfold law12_RingTwice_o at h
  cases h

def law12_RingTwice_k1_S (x15 : Bool) : St :=
  { slots := [(6, .v (.one (.val (.bool x15))))], objs := [] }

def law12_RingTwice_k4_S (a1 : Ring) (a2 : Ring) (a3 : Int) (v6 : Ring × Int) (x31 : Int) (x42 : Bool) : St :=
  { slots := [(2, .v (.one (.val (.int .i64 a3)))), (3, .v (.one (.bptr 1 0 0))), (4, .v (.one (.bptr 2 0 0))), (7, .v (.one (.bptr 4 0 0))), (9, .v (.one (.val (.int .i64 x31)))), (118, .v (.one (.val (.bool x42))))], objs := [(1, (0, .box 24 [.val (.int .i64 a1.Z), tl e_Reading default a1.Read])), (2, (0, .box 24 [.val (.int .i64 a2.Z), tl e_Reading default a2.Read])), (3, (0, .row 44 3 v6.1.Read.length (rowf e_Reading default v6.1.Read))), (4, (0, .box 24 [.val (.int .i64 v6.1.Z), .own 3 0 3 v6.1.Read.length]))] }

def law12_RingTwice_L3_S (a1 : Ring) (a2 : Ring) (a3 : Int) (v6 : Ring × Int) (x31 : Int) : St :=
  { slots := [(2, .v (.one (.val (.int .i64 a3)))), (3, .v (.one (.bptr 1 0 0))), (4, .v (.one (.bptr 2 0 0))), (7, .v (.one (.bptr 4 0 0))), (9, .v (.one (.val (.int .i64 x31))))], objs := [(1, (0, .box 24 [.val (.int .i64 a1.Z), tl e_Reading default a1.Read])), (2, (0, .box 24 [.val (.int .i64 a2.Z), tl e_Reading default a2.Read])), (3, (0, .row 44 3 v6.1.Read.length (rowf e_Reading default v6.1.Read))), (4, (0, .box 24 [.val (.int .i64 v6.1.Z), .own 3 0 3 v6.1.Read.length]))] }

def law12_RingTwice_L3_T (a1 : Ring) (a2 : Ring) (a3 : Int) (v6 : Ring × Int) : St :=
  { slots := [(2, .v (.one (.val (.int .i64 a3)))), (3, .v (.one (.bptr 1 0 0))), (4, .v (.one (.bptr 2 0 0))), (7, .v (.one (.bptr 4 0 0)))], objs := [(1, (0, .box 24 [.val (.int .i64 a1.Z), tl e_Reading default a1.Read])), (2, (0, .box 24 [.val (.int .i64 a2.Z), tl e_Reading default a2.Read])), (3, (0, .row 44 3 v6.1.Read.length (rowf e_Reading default v6.1.Read))), (4, (0, .box 24 [.val (.int .i64 v6.1.Z), .own 3 0 3 v6.1.Read.length]))] }

def law12_RingTwice_k5_S (x86 : Bool) : St :=
  { slots := [(6, .v (.one (.val (.bool x86))))], objs := [] }

def law12_RingTwice_k2_S (a1 : Ring) (a2 : Ring) (a3 : Int) (v6 : Ring × Int) (x27 : Bool) : St :=
  { slots := [(2, .v (.one (.val (.int .i64 a3)))), (3, .v (.one (.bptr 1 0 0))), (4, .v (.one (.bptr 2 0 0))), (7, .v (.one (.bptr 4 0 0))), (69, .v (.one (.val (.bool x27))))], objs := [(1, (0, .box 24 [.val (.int .i64 a1.Z), tl e_Reading default a1.Read])), (2, (0, .box 24 [.val (.int .i64 a2.Z), tl e_Reading default a2.Read])), (3, (0, .row 44 3 v6.1.Read.length (rowf e_Reading default v6.1.Read))), (4, (0, .box 24 [.val (.int .i64 v6.1.Z), .own 3 0 3 v6.1.Read.length]))] }

set_option maxRecDepth 100000 in
theorem law12_RingTwice_L3_ok (w : World) (A : Nat → Prop) (hg : Globs globs w A) (a1 : Ring) (a2 : Ring) (a3 : Int) (v6 : Ring × Int) : ∀ (n : Nat) (x31 : Int) (res : Bool ⊕ Unit), law12_RingTwice_L3 a1 a2 v6 n x31 = some res → HL ({ P := Tryd.prog, w0 := w, nt := 183, A := A, globs := globs, mixed := mixed, glob := hg } : Ctx) (nd Tryd.f9 [1, 1, 1, 1, 0, 1, 0, 0]) (loopQ 0 (fun o => law12_RingTwice_L3_T a1 a2 a3 v6) (fun v st => RetQ Tryd.prog Tryd.f9 (law12_RingTwice_x v) (law12_RingTwice_o v) .ret st) res) n (law12_RingTwice_L3_S a1 a2 a3 v6 x31) := by
  intro n
  induction n with
  | zero =>
    intro x31 res hm
    cases hm
  | succ n ih =>
    intro x31 res hm
    refine HL_succ ?_
    refine R_seq (nd Tryd.f9 [1, 1, 1, 1, 0, 1, 0, 0, 0]) (nd Tryd.f9 [1, 1, 1, 1, 0, 1, 0, 0, 1]) (by kernel_rfl) ?_
    refine R_seq (nd Tryd.f9 [1, 1, 1, 1, 0, 1, 0, 0, 0, 0]) (nd Tryd.f9 [1, 1, 1, 1, 0, 1, 0, 0, 0, 1]) (by kernel_rfl) ?_
    refine R_region 7 (rg Tryd.f9 [1, 1, 1, 1, 0, 1, 0, 0, 0, 0]) (by kernel_rfl) ?_
    have k32 : opsOk 183 (rg Tryd.f9 [1, 1, 1, 1, 0, 1, 0, 0, 0, 0]) = true := by kernel_rfl
    refine P_op k32 (.v (.one (.val (.int .i64 x31)))) (by kernel_rfl) ?_
    refine P_op k32 (.v (.one (.bptr 4 0 1))) (by kernel_rfl) ?_
    refine P_op k32 (.v (.one (.own 3 0 3 v6.1.Read.length))) (by kernel_rfl) ?_
    refine P_op k32 (.v (.one (.val (.int .i64 ((v6.1.Read.length : Nat) : Int))))) (by kernel_rfl) ?_
    refine P_op k32 (.v (.one (.val (.bool (decide (x31 < ((v6.1.Read.length : Nat) : Int))))))) (by kernel_rfl) ?_
    refine HOps_end (by kernel_rfl) ?_
    refine R_cond (.tmp 74) (nd Tryd.f9 [1, 1, 1, 1, 0, 1, 0, 0, 0, 1, 0]) (nd Tryd.f9 [1, 1, 1, 1, 0, 1, 0, 0, 0, 1, 1]) (by kernel_rfl) (decide (x31 < ((v6.1.Read.length : Nat) : Int))) (by kernel_rfl) (fun b33 => ?_) (fun b33 => ?_)
    · replace hm := bif_t b33 hm
      refine R_skip (by kernel_rfl) ?_
      refine R_seq (nd Tryd.f9 [1, 1, 1, 1, 0, 1, 0, 0, 1, 0]) (nd Tryd.f9 [1, 1, 1, 1, 0, 1, 0, 0, 1, 1]) (by kernel_rfl) ?_
      refine R_block 1 (nd Tryd.f9 [1, 1, 1, 1, 0, 1, 0, 0, 1, 0, 0]) (by kernel_rfl) ?_
      refine R_join (ι := Bool) (nd Tryd.f9 [1, 1, 1, 1, 0, 1, 0, 0, 1, 0, 0, 0]) (nd Tryd.f9 [1, 1, 1, 1, 0, 1, 0, 0, 1, 0, 0, 1]) (by kernel_rfl) (fun p => law12_RingTwice_k4_S a1 a2 a3 v6 x31 p) (fun p => law12_RingTwice_k4 x31 (law12_RingTwice_L3 a1 a2 v6 n) p = some res) ?_ ?_
      · rintro x42 hm
        show H _ (law12_RingTwice_k4_S a1 a2 a3 v6 x31 x42) (nd Tryd.f9 [1, 1, 1, 1, 0, 1, 0, 0, 1, 0, 0, 1]) _
        refine R_cond (.tmp 118) (nd Tryd.f9 [1, 1, 1, 1, 0, 1, 0, 0, 1, 0, 0, 1, 0]) (nd Tryd.f9 [1, 1, 1, 1, 0, 1, 0, 0, 1, 0, 0, 1, 1]) (by kernel_rfl) x42 (by kernel_rfl) (fun b43 => ?_) (fun b43 => ?_)
        · replace hm := bif_t b43 hm
          refine R_seq (nd Tryd.f9 [1, 1, 1, 1, 0, 1, 0, 0, 1, 0, 0, 1, 0, 0]) (nd Tryd.f9 [1, 1, 1, 1, 0, 1, 0, 0, 1, 0, 0, 1, 0, 1]) (by kernel_rfl) ?_
          refine R_region 10 (rg Tryd.f9 [1, 1, 1, 1, 0, 1, 0, 0, 1, 0, 0, 1, 0, 0]) (by kernel_rfl) ?_
          have k44 : opsOk 183 (rg Tryd.f9 [1, 1, 1, 1, 0, 1, 0, 0, 1, 0, 0, 1, 0, 0]) = true := by kernel_rfl
          refine P_op k44 (.v (.one (.val (.bool false)))) (by kernel_rfl) ?_
          refine HOps_end (by kernel_rfl) ?_
          obtain rfl := Option.some.inj hm
          refine R_ret (by kernel_rfl) ?_
          refine L1_ret false ?_
          exact ret_mk (by kernel_rfl) (by kernel_rfl)
        · replace hm := bif_f b43 hm
          refine R_skip (by kernel_rfl) ?_
          refine R_region 8 (rg Tryd.f9 [1, 1, 1, 1, 0, 1, 0, 0, 1, 1]) (by kernel_rfl) ?_
          have k45 : opsOk 183 (rg Tryd.f9 [1, 1, 1, 1, 0, 1, 0, 0, 1, 1]) = true := by kernel_rfl
          refine P_op k45 (.v (.one (.val (.int .i64 x31)))) (by kernel_rfl) ?_
          refine P_op k45 (.v (.one (.val (.int .i64 (w64 (x31 + 1)))))) (by kernel_rfl) ?_
          refine P_op k45 (.v (.one (.val (.int .i64 (w64 (x31 + 1)))))) (by kernel_rfl) ?_
          refine HOps_end (by kernel_rfl) ?_
          exact HL_enter (law12_RingTwice_L3_S a1 a2 a3 v6 (w64 (x31 + 1))) (by kernel_rfl) (by kernel_rfl) (ih (w64 (x31 + 1)) _ hm)
      · obtain ⟨g34, hm⟩ := bif_n hm
        obtain ⟨g35, hm⟩ := bif_n hm
        rcases Bool.eq_false_or_eq_true ((a1.Read.getD x31.toNat default).Ok) with b36 | b36
        · replace hm := bif_t b36 hm
          rcases Bool.eq_false_or_eq_true (!(((v6.1.Read.getD x31.toNat default).Ok) == true)) with b37 | b37
          · replace hm := bif_t b37 hm
            refine R_draw 9 (rg Tryd.f9 [1, 1, 1, 1, 0, 1, 0, 0, 1, 0, 0, 0]) (by kernel_rfl) [⟨true, .v (.one (.bptr 4 0 1)), [], [], [7], []⟩, ⟨true, .v (.one (.own 3 0 3 v6.1.Read.length)), [], [], [77], [4]⟩, ⟨true, .v (.one (.val (.int .i64 x31))), [], [], [9], []⟩, ⟨true, .v (.one (.rptr 3 0 3 x31.toNat 0)), [], [], [78, 79], []⟩, ⟨true, .v (.one (.rptr 3 0 3 x31.toNat 2)), [], [], [80], []⟩, ⟨true, .v (.one (.val (.bool ((v6.1.Read.getD x31.toNat default).Ok)))), [], [], [81], [3]⟩, ⟨true, .v (.one (.bptr 1 0 1)), [], [], [3], []⟩, ⟨true, .v (.one (tl e_Reading default a1.Read)), [], [], [83], [1]⟩, ⟨true, .v (.one (.val (.int .i64 x31))), [], [], [9], []⟩, ⟨true, .v (.one (.lptr (e_Reading (a1.Read.getD x31.toNat default)))), [], [], [84, 85], []⟩, ⟨true, .v (.one (.lptr ((e_Reading (a1.Read.getD x31.toNat default)).drop 2))), [], [], [86], []⟩, ⟨true, .v (.one (.val (.bool ((a1.Read.getD x31.toNat default).Ok)))), [], [], [87], []⟩, ⟨true, boolV true, [], [], [88], []⟩, ⟨false, .undef, [], [], [89], []⟩, ⟨false, .undef, [], [], [89], []⟩, ⟨false, .undef, [], [], [89], []⟩, ⟨false, .undef, [], [], [89], []⟩, ⟨false, .undef, [], [], [89], []⟩, ⟨false, .undef, [], [], [89], []⟩, ⟨true, .v (.one (.val (.bool true))), [], [], [89, 95], []⟩, ⟨true, .v (.one (.val (.bool (!(((v6.1.Read.getD x31.toNat default).Ok) == true))))), [], [], [82, 96], []⟩, ⟨true, boolV true, [], [], [97], []⟩, ⟨false, .undef, [], [], [98], []⟩, ⟨false, .undef, [], [], [98], []⟩, ⟨false, .undef, [], [], [98], []⟩, ⟨false, .undef, [], [], [98], []⟩, ⟨false, .undef, [], [], [98], []⟩, ⟨false, .undef, [], [], [98], []⟩, ⟨false, .undef, [], [], [98], []⟩, ⟨false, .undef, [], [], [105], []⟩, ⟨false, .undef, [], [], [105], []⟩, ⟨false, .undef, [], [], [105], []⟩, ⟨false, .undef, [], [], [105], []⟩, ⟨false, .undef, [], [], [105], []⟩, ⟨false, .undef, [], [], [105], []⟩, ⟨false, .undef, [], [], [105], []⟩, ⟨false, .undef, [], [], [105], []⟩, ⟨false, .undef, [], [], [105], []⟩, ⟨false, .undef, [], [], [105], []⟩, ⟨false, .undef, [], [], [105], []⟩, ⟨false, .undef, [], [], [98], []⟩, ⟨true, .v (.one (.val (.bool true))), [], [], [98, 117], []⟩] [0, 1, 0, 7, 15, 31, 0, 64, 0, 448, 960, 1984, 4032, 8128, 16320, 8128, 65472, 131008, 262080, 524224, 1048575, 2097151, 4194303, 8388607, 4194303, 33554431, 67108863, 134217727, 268435455, 536870911, 1073741823, 536870911, 4294967295, 8589934591, 536870911, 17716740095, 536870911, 120795955199, 258234908671, 549755813887, 1099511627775, 2199023255551] (by kernel_rfl) (by kernel_rfl) (by kernel_rfl) (by kernel_rfl) (by kernel_rfl) (by kernel_rfl) ?_ ?_
            · refine A_pure (.v (.one (.bptr 4 0 1))) [7] [] (True) (by kernel_rfl) trivial ?_
              refine A_pure (.v (.one (.own 3 0 3 v6.1.Read.length))) [77] [4] (True) (by kernel_rfl) trivial ?_
              refine A_pure (.v (.one (.val (.int .i64 x31)))) [9] [] (True) (by kernel_rfl) trivial ?_
              refine A_pure (.v (.one (.rptr 3 0 3 x31.toNat 0))) [78, 79] [] (0 ≤ x31 ∧ x31 < ((v6.1.Read.length : Nat) : Int)) (by kernel_rfl) (inb_of g34) ?_
              refine A_pure (.v (.one (.rptr 3 0 3 x31.toNat 2))) [80] [] (True) (by kernel_rfl) trivial ?_
              refine A_pure (.v (.one (.val (.bool ((v6.1.Read.getD x31.toNat default).Ok))))) [81] [3] (x31.toNat < v6.1.Read.length) (by kernel_rfl) (toNat_lt (inb_of g34)) ?_
              refine A_pure (.v (.one (.bptr 1 0 1))) [3] [] (True) (by kernel_rfl) trivial ?_
              refine A_pure (.v (.one (tl e_Reading default a1.Read))) [83] [1] (True) (by kernel_rfl) trivial ?_
              refine A_pure (.v (.one (.val (.int .i64 x31)))) [9] [] (True) (by kernel_rfl) trivial ?_
              refine A_pure (.v (.one (.lptr (e_Reading (a1.Read.getD x31.toNat default))))) [84, 85] [] (0 ≤ x31 ∧ x31 < ((a1.Read.length : Nat) : Int)) (by kernel_rfl) (inb_of g35) ?_
              refine A_pure (.v (.one (.lptr ((e_Reading (a1.Read.getD x31.toNat default)).drop 2)))) [86] [] (True) (by kernel_rfl) trivial ?_
              refine A_pure (.v (.one (.val (.bool ((a1.Read.getD x31.toNat default).Ok))))) [87] [] (True) (by kernel_rfl) trivial ?_
              refine A_pureE (boolV true) (boolV ((a1.Read.getD x31.toNat default).Ok)) (congrArg boolV b36) [88] [] (True) (by kernel_rfl) trivial ?_
              refine A_skip [89] (by kernel_rfl) ?_
              refine A_skip [89] (by kernel_rfl) ?_
              refine A_skip [89] (by kernel_rfl) ?_
              refine A_skip [89] (by kernel_rfl) ?_
              refine A_skip [89] (by kernel_rfl) ?_
              refine A_skip [89] (by kernel_rfl) ?_
              refine A_pure (.v (.one (.val (.bool true)))) [89, 95] [] (True) (by kernel_rfl) trivial ?_
              refine A_pure (.v (.one (.val (.bool (!(((v6.1.Read.getD x31.toNat default).Ok) == true)))))) [82, 96] [] (True) (by kernel_rfl) trivial ?_
              refine A_pureE (boolV true) (boolV (!(((v6.1.Read.getD x31.toNat default).Ok) == true))) (congrArg boolV b37) [97] [] (True) (by kernel_rfl) trivial ?_
              refine A_skip [98] (by kernel_rfl) ?_
              refine A_skip [98] (by kernel_rfl) ?_
              refine A_skip [98] (by kernel_rfl) ?_
              refine A_skip [98] (by kernel_rfl) ?_
              refine A_skip [98] (by kernel_rfl) ?_
              refine A_skip [98] (by kernel_rfl) ?_
              refine A_skip [98] (by kernel_rfl) ?_
              refine A_skip [105] (by kernel_rfl) ?_
              refine A_skip [105] (by kernel_rfl) ?_
              refine A_skip [105] (by kernel_rfl) ?_
              refine A_skip [105] (by kernel_rfl) ?_
              refine A_skip [105] (by kernel_rfl) ?_
              refine A_skip [105] (by kernel_rfl) ?_
              refine A_skip [105] (by kernel_rfl) ?_
              refine A_skip [105] (by kernel_rfl) ?_
              refine A_skip [105] (by kernel_rfl) ?_
              refine A_skip [105] (by kernel_rfl) ?_
              refine A_skip [105] (by kernel_rfl) ?_
              refine A_skip [98] (by kernel_rfl) ?_
              refine A_pure (.v (.one (.val (.bool true)))) [98, 117] [] (True) (by kernel_rfl) trivial ?_
              exact A_end
            · exact J_mk (true) hm (by kernel_rfl) (by kernel_rfl)
          · replace hm := bif_f b37 hm
            rcases Bool.eq_false_or_eq_true ((a1.Read.getD x31.toNat default).Ok) with b38 | b38
            · replace hm := bif_t b38 hm
              refine R_draw 9 (rg Tryd.f9 [1, 1, 1, 1, 0, 1, 0, 0, 1, 0, 0, 0]) (by kernel_rfl) [⟨true, .v (.one (.bptr 4 0 1)), [], [], [7], []⟩, ⟨true, .v (.one (.own 3 0 3 v6.1.Read.length)), [], [], [77], [4]⟩, ⟨true, .v (.one (.val (.int .i64 x31))), [], [], [9], []⟩, ⟨true, .v (.one (.rptr 3 0 3 x31.toNat 0)), [], [], [78, 79], []⟩, ⟨true, .v (.one (.rptr 3 0 3 x31.toNat 2)), [], [], [80], []⟩, ⟨true, .v (.one (.val (.bool ((v6.1.Read.getD x31.toNat default).Ok)))), [], [], [81], [3]⟩, ⟨true, .v (.one (.bptr 1 0 1)), [], [], [3], []⟩, ⟨true, .v (.one (tl e_Reading default a1.Read)), [], [], [83], [1]⟩, ⟨true, .v (.one (.val (.int .i64 x31))), [], [], [9], []⟩, ⟨true, .v (.one (.lptr (e_Reading (a1.Read.getD x31.toNat default)))), [], [], [84, 85], []⟩, ⟨true, .v (.one (.lptr ((e_Reading (a1.Read.getD x31.toNat default)).drop 2))), [], [], [86], []⟩, ⟨true, .v (.one (.val (.bool ((a1.Read.getD x31.toNat default).Ok)))), [], [], [87], []⟩, ⟨true, boolV true, [], [], [88], []⟩, ⟨false, .undef, [], [], [89], []⟩, ⟨false, .undef, [], [], [89], []⟩, ⟨false, .undef, [], [], [89], []⟩, ⟨false, .undef, [], [], [89], []⟩, ⟨false, .undef, [], [], [89], []⟩, ⟨false, .undef, [], [], [89], []⟩, ⟨true, .v (.one (.val (.bool true))), [], [], [89, 95], []⟩, ⟨true, .v (.one (.val (.bool (!(((v6.1.Read.getD x31.toNat default).Ok) == true))))), [], [], [82, 96], []⟩, ⟨true, boolV false, [], [], [97], []⟩, ⟨true, .v (.one (.bptr 1 0 1)), [], [], [3, 98], []⟩, ⟨true, .v (.one (tl e_Reading default a1.Read)), [], [], [98, 99], [1]⟩, ⟨true, .v (.one (.val (.int .i64 x31))), [], [], [9, 98], []⟩, ⟨true, .v (.one (.lptr (e_Reading (a1.Read.getD x31.toNat default)))), [], [], [98, 100, 101], []⟩, ⟨true, .v (.one (.lptr ((e_Reading (a1.Read.getD x31.toNat default)).drop 2))), [], [], [98, 102], []⟩, ⟨true, .v (.one (.val (.bool ((a1.Read.getD x31.toNat default).Ok)))), [], [], [98, 103], []⟩, ⟨true, boolV true, [], [], [98, 104], []⟩, ⟨true, .v (.one (.bptr 4 0 1)), [], [], [7, 105], []⟩, ⟨true, .v (.one (.own 3 0 3 v6.1.Read.length)), [], [], [105, 106], [4]⟩, ⟨true, .v (.one (.val (.int .i64 x31))), [], [], [9, 105], []⟩, ⟨true, .v (.one (.rptr 3 0 3 x31.toNat 0)), [], [], [105, 107, 108], []⟩, ⟨true, .v (.agg [.val (.int .i64 (((v6.1.Read.getD x31.toNat default).P).X)), .val (.int .i64 (((v6.1.Read.getD x31.toNat default).P).Y)), .val (.bool ((v6.1.Read.getD x31.toNat default).Ok))]), [], [], [105, 109], [3]⟩, ⟨true, .v (.one (.bptr 1 0 1)), [], [], [3, 105], []⟩, ⟨true, .v (.one (tl e_Reading default a1.Read)), [], [], [105, 111], [1]⟩, ⟨true, .v (.one (.val (.int .i64 x31))), [], [], [9, 105], []⟩, ⟨true, .v (.one (.lptr (e_Reading (a1.Read.getD x31.toNat default)))), [], [], [105, 112, 113], []⟩, ⟨true, .v (.agg [.val (.int .i64 (((a1.Read.getD x31.toNat default).P).X)), .val (.int .i64 (((a1.Read.getD x31.toNat default).P).Y)), .val (.bool ((a1.Read.getD x31.toNat default).Ok))]), [], [], [105, 114], []⟩, ⟨true, .v (.one (.val (.bool (!(((((v6.1.Read.getD x31.toNat default).P).X == ((a1.Read.getD x31.toNat default).P).X) && ((((v6.1.Read.getD x31.toNat default).P).Y == ((a1.Read.getD x31.toNat default).P).Y) && true)) && (((v6.1.Read.getD x31.toNat default).Ok == (a1.Read.getD x31.toNat default).Ok) && true)))))), [], [], [105, 110, 115], []⟩, ⟨true, .v (.one (.val (.bool (!(((((v6.1.Read.getD x31.toNat default).P).X == ((a1.Read.getD x31.toNat default).P).X) && ((((v6.1.Read.getD x31.toNat default).P).Y == ((a1.Read.getD x31.toNat default).P).Y) && true)) && (((v6.1.Read.getD x31.toNat default).Ok == (a1.Read.getD x31.toNat default).Ok) && true)))))), [], [], [98, 105, 116], []⟩, ⟨true, .v (.one (.val (.bool (!(((((v6.1.Read.getD x31.toNat default).P).X == ((a1.Read.getD x31.toNat default).P).X) && ((((v6.1.Read.getD x31.toNat default).P).Y == ((a1.Read.getD x31.toNat default).P).Y) && true)) && (((v6.1.Read.getD x31.toNat default).Ok == (a1.Read.getD x31.toNat default).Ok) && true)))))), [], [], [98, 117], []⟩] [0, 1, 0, 7, 15, 31, 0, 64, 0, 448, 960, 1984, 4032, 8128, 16320, 8128, 65472, 131008, 262080, 524224, 1048575, 2097151, 4194303, 8388607, 4194303, 33554431, 67108863, 134217727, 268435455, 536870911, 1073741823, 536870911, 4294967295, 8589934591, 536870911, 17716740095, 536870911, 120795955199, 258234908671, 549755813887, 1099511627775, 2199023255551] (by kernel_rfl) (by kernel_rfl) (by kernel_rfl) (by kernel_rfl) (by kernel_rfl) (by kernel_rfl) ?_ ?_
              · refine A_pure (.v (.one (.bptr 4 0 1))) [7] [] (True) (by kernel_rfl) trivial ?_
                refine A_pure (.v (.one (.own 3 0 3 v6.1.Read.length))) [77] [4] (True) (by kernel_rfl) trivial ?_
                refine A_pure (.v (.one (.val (.int .i64 x31)))) [9] [] (True) (by kernel_rfl) trivial ?_
                refine A_pure (.v (.one (.rptr 3 0 3 x31.toNat 0))) [78, 79] [] (0 ≤ x31 ∧ x31 < ((v6.1.Read.length : Nat) : Int)) (by kernel_rfl) (inb_of g34) ?_
                refine A_pure (.v (.one (.rptr 3 0 3 x31.toNat 2))) [80] [] (True) (by kernel_rfl) trivial ?_
                refine A_pure (.v (.one (.val (.bool ((v6.1.Read.getD x31.toNat default).Ok))))) [81] [3] (x31.toNat < v6.1.Read.length) (by kernel_rfl) (toNat_lt (inb_of g34)) ?_
                refine A_pure (.v (.one (.bptr 1 0 1))) [3] [] (True) (by kernel_rfl) trivial ?_
                refine A_pure (.v (.one (tl e_Reading default a1.Read))) [83] [1] (True) (by kernel_rfl) trivial ?_
                refine A_pure (.v (.one (.val (.int .i64 x31)))) [9] [] (True) (by kernel_rfl) trivial ?_
                refine A_pure (.v (.one (.lptr (e_Reading (a1.Read.getD x31.toNat default))))) [84, 85] [] (0 ≤ x31 ∧ x31 < ((a1.Read.length : Nat) : Int)) (by kernel_rfl) (inb_of g35) ?_
                refine A_pure (.v (.one (.lptr ((e_Reading (a1.Read.getD x31.toNat default)).drop 2)))) [86] [] (True) (by kernel_rfl) trivial ?_
                refine A_pure (.v (.one (.val (.bool ((a1.Read.getD x31.toNat default).Ok))))) [87] [] (True) (by kernel_rfl) trivial ?_
                refine A_pureE (boolV true) (boolV ((a1.Read.getD x31.toNat default).Ok)) (congrArg boolV b36) [88] [] (True) (by kernel_rfl) trivial ?_
                refine A_skip [89] (by kernel_rfl) ?_
                refine A_skip [89] (by kernel_rfl) ?_
                refine A_skip [89] (by kernel_rfl) ?_
                refine A_skip [89] (by kernel_rfl) ?_
                refine A_skip [89] (by kernel_rfl) ?_
                refine A_skip [89] (by kernel_rfl) ?_
                refine A_pure (.v (.one (.val (.bool true)))) [89, 95] [] (True) (by kernel_rfl) trivial ?_
                refine A_pure (.v (.one (.val (.bool (!(((v6.1.Read.getD x31.toNat default).Ok) == true)))))) [82, 96] [] (True) (by kernel_rfl) trivial ?_
                refine A_pureE (boolV false) (boolV (!(((v6.1.Read.getD x31.toNat default).Ok) == true))) (congrArg boolV b37) [97] [] (True) (by kernel_rfl) trivial ?_
                refine A_pure (.v (.one (.bptr 1 0 1))) [3, 98] [] (True) (by kernel_rfl) trivial ?_
                refine A_pure (.v (.one (tl e_Reading default a1.Read))) [98, 99] [1] (True) (by kernel_rfl) trivial ?_
                refine A_pure (.v (.one (.val (.int .i64 x31)))) [9, 98] [] (True) (by kernel_rfl) trivial ?_
                refine A_pure (.v (.one (.lptr (e_Reading (a1.Read.getD x31.toNat default))))) [98, 100, 101] [] (0 ≤ x31 ∧ x31 < ((a1.Read.length : Nat) : Int)) (by kernel_rfl) (inb_of g35) ?_
                refine A_pure (.v (.one (.lptr ((e_Reading (a1.Read.getD x31.toNat default)).drop 2)))) [98, 102] [] (True) (by kernel_rfl) trivial ?_
                refine A_pure (.v (.one (.val (.bool ((a1.Read.getD x31.toNat default).Ok))))) [98, 103] [] (True) (by kernel_rfl) trivial ?_
                refine A_pureE (boolV true) (boolV ((a1.Read.getD x31.toNat default).Ok)) (congrArg boolV b38) [98, 104] [] (True) (by kernel_rfl) trivial ?_
                refine A_pure (.v (.one (.bptr 4 0 1))) [7, 105] [] (True) (by kernel_rfl) trivial ?_
                refine A_pure (.v (.one (.own 3 0 3 v6.1.Read.length))) [105, 106] [4] (True) (by kernel_rfl) trivial ?_
                refine A_pure (.v (.one (.val (.int .i64 x31)))) [9, 105] [] (True) (by kernel_rfl) trivial ?_
                refine A_pure (.v (.one (.rptr 3 0 3 x31.toNat 0))) [105, 107, 108] [] (0 ≤ x31 ∧ x31 < ((v6.1.Read.length : Nat) : Int)) (by kernel_rfl) (inb_of g34) ?_
                refine A_pure (.v (.agg [.val (.int .i64 (((v6.1.Read.getD x31.toNat default).P).X)), .val (.int .i64 (((v6.1.Read.getD x31.toNat default).P).Y)), .val (.bool ((v6.1.Read.getD x31.toNat default).Ok))])) [105, 109] [3] (x31.toNat < v6.1.Read.length) (by kernel_rfl) (toNat_lt (inb_of g34)) ?_
                refine A_pure (.v (.one (.bptr 1 0 1))) [3, 105] [] (True) (by kernel_rfl) trivial ?_
                refine A_pure (.v (.one (tl e_Reading default a1.Read))) [105, 111] [1] (True) (by kernel_rfl) trivial ?_
                refine A_pure (.v (.one (.val (.int .i64 x31)))) [9, 105] [] (True) (by kernel_rfl) trivial ?_
                refine A_pure (.v (.one (.lptr (e_Reading (a1.Read.getD x31.toNat default))))) [105, 112, 113] [] (0 ≤ x31 ∧ x31 < ((a1.Read.length : Nat) : Int)) (by kernel_rfl) (inb_of g35) ?_
                refine A_pure (.v (.agg [.val (.int .i64 (((a1.Read.getD x31.toNat default).P).X)), .val (.int .i64 (((a1.Read.getD x31.toNat default).P).Y)), .val (.bool ((a1.Read.getD x31.toNat default).Ok))])) [105, 114] [] (True) (by kernel_rfl) trivial ?_
                refine A_pure (.v (.one (.val (.bool (!(((((v6.1.Read.getD x31.toNat default).P).X == ((a1.Read.getD x31.toNat default).P).X) && ((((v6.1.Read.getD x31.toNat default).P).Y == ((a1.Read.getD x31.toNat default).P).Y) && true)) && (((v6.1.Read.getD x31.toNat default).Ok == (a1.Read.getD x31.toNat default).Ok) && true))))))) [105, 110, 115] [] (True) (by kernel_rfl) trivial ?_
                refine A_pure (.v (.one (.val (.bool (!(((((v6.1.Read.getD x31.toNat default).P).X == ((a1.Read.getD x31.toNat default).P).X) && ((((v6.1.Read.getD x31.toNat default).P).Y == ((a1.Read.getD x31.toNat default).P).Y) && true)) && (((v6.1.Read.getD x31.toNat default).Ok == (a1.Read.getD x31.toNat default).Ok) && true))))))) [98, 105, 116] [] (True) (by kernel_rfl) trivial ?_
                refine A_pure (.v (.one (.val (.bool (!(((((v6.1.Read.getD x31.toNat default).P).X == ((a1.Read.getD x31.toNat default).P).X) && ((((v6.1.Read.getD x31.toNat default).P).Y == ((a1.Read.getD x31.toNat default).P).Y) && true)) && (((v6.1.Read.getD x31.toNat default).Ok == (a1.Read.getD x31.toNat default).Ok) && true))))))) [98, 117] [] (True) (by kernel_rfl) trivial ?_
                exact A_end
              · exact J_mk (!(((((v6.1.Read.getD x31.toNat default).P).X == ((a1.Read.getD x31.toNat default).P).X) && ((((v6.1.Read.getD x31.toNat default).P).Y == ((a1.Read.getD x31.toNat default).P).Y) && true)) && (((v6.1.Read.getD x31.toNat default).Ok == (a1.Read.getD x31.toNat default).Ok) && true))) hm (by kernel_rfl) (by kernel_rfl)
            · replace hm := bif_f b38 hm
              refine R_draw 9 (rg Tryd.f9 [1, 1, 1, 1, 0, 1, 0, 0, 1, 0, 0, 0]) (by kernel_rfl) [⟨true, .v (.one (.bptr 4 0 1)), [], [], [7], []⟩, ⟨true, .v (.one (.own 3 0 3 v6.1.Read.length)), [], [], [77], [4]⟩, ⟨true, .v (.one (.val (.int .i64 x31))), [], [], [9], []⟩, ⟨true, .v (.one (.rptr 3 0 3 x31.toNat 0)), [], [], [78, 79], []⟩, ⟨true, .v (.one (.rptr 3 0 3 x31.toNat 2)), [], [], [80], []⟩, ⟨true, .v (.one (.val (.bool ((v6.1.Read.getD x31.toNat default).Ok)))), [], [], [81], [3]⟩, ⟨true, .v (.one (.bptr 1 0 1)), [], [], [3], []⟩, ⟨true, .v (.one (tl e_Reading default a1.Read)), [], [], [83], [1]⟩, ⟨true, .v (.one (.val (.int .i64 x31))), [], [], [9], []⟩, ⟨true, .v (.one (.lptr (e_Reading (a1.Read.getD x31.toNat default)))), [], [], [84, 85], []⟩, ⟨true, .v (.one (.lptr ((e_Reading (a1.Read.getD x31.toNat default)).drop 2))), [], [], [86], []⟩, ⟨true, .v (.one (.val (.bool ((a1.Read.getD x31.toNat default).Ok)))), [], [], [87], []⟩, ⟨true, boolV true, [], [], [88], []⟩, ⟨false, .undef, [], [], [89], []⟩, ⟨false, .undef, [], [], [89], []⟩, ⟨false, .undef, [], [], [89], []⟩, ⟨false, .undef, [], [], [89], []⟩, ⟨false, .undef, [], [], [89], []⟩, ⟨false, .undef, [], [], [89], []⟩, ⟨true, .v (.one (.val (.bool true))), [], [], [89, 95], []⟩, ⟨true, .v (.one (.val (.bool (!(((v6.1.Read.getD x31.toNat default).Ok) == true))))), [], [], [82, 96], []⟩, ⟨true, boolV false, [], [], [97], []⟩, ⟨true, .v (.one (.bptr 1 0 1)), [], [], [3, 98], []⟩, ⟨true, .v (.one (tl e_Reading default a1.Read)), [], [], [98, 99], [1]⟩, ⟨true, .v (.one (.val (.int .i64 x31))), [], [], [9, 98], []⟩, ⟨true, .v (.one (.lptr (e_Reading (a1.Read.getD x31.toNat default)))), [], [], [98, 100, 101], []⟩, ⟨true, .v (.one (.lptr ((e_Reading (a1.Read.getD x31.toNat default)).drop 2))), [], [], [98, 102], []⟩, ⟨true, .v (.one (.val (.bool ((a1.Read.getD x31.toNat default).Ok)))), [], [], [98, 103], []⟩, ⟨true, boolV false, [], [], [98, 104], []⟩, ⟨false, .undef, [], [], [105], []⟩, ⟨false, .undef, [], [], [105], []⟩, ⟨false, .undef, [], [], [105], []⟩, ⟨false, .undef, [], [], [105], []⟩, ⟨false, .undef, [], [], [105], []⟩, ⟨false, .undef, [], [], [105], []⟩, ⟨false, .undef, [], [], [105], []⟩, ⟨false, .undef, [], [], [105], []⟩, ⟨false, .undef, [], [], [105], []⟩, ⟨false, .undef, [], [], [105], []⟩, ⟨false, .undef, [], [], [105], []⟩, ⟨true, .v (.one (.val (.bool false))), [], [], [98, 105, 116], []⟩, ⟨true, .v (.one (.val (.bool false))), [], [], [98, 117], []⟩] [0, 1, 0, 7, 15, 31, 0, 64, 0, 448, 960, 1984, 4032, 8128, 16320, 8128, 65472, 131008, 262080, 524224, 1048575, 2097151, 4194303, 8388607, 4194303, 33554431, 67108863, 134217727, 268435455, 536870911, 1073741823, 536870911, 4294967295, 8589934591, 536870911, 17716740095, 536870911, 120795955199, 258234908671, 549755813887, 1099511627775, 2199023255551] (by kernel_rfl) (by kernel_rfl) (by kernel_rfl) (by kernel_rfl) (by kernel_rfl) (by kernel_rfl) ?_ ?_
              · refine A_pure (.v (.one (.bptr 4 0 1))) [7] [] (True) (by kernel_rfl) trivial ?_
                refine A_pure (.v (.one (.own 3 0 3 v6.1.Read.length))) [77] [4] (True) (by kernel_rfl) trivial ?_
                refine A_pure (.v (.one (.val (.int .i64 x31)))) [9] [] (True) (by kernel_rfl) trivial ?_
                refine A_pure (.v (.one (.rptr 3 0 3 x31.toNat 0))) [78, 79] [] (0 ≤ x31 ∧ x31 < ((v6.1.Read.length : Nat) : Int)) (by kernel_rfl) (inb_of g34) ?_
                refine A_pure (.v (.one (.rptr 3 0 3 x31.toNat 2))) [80] [] (True) (by kernel_rfl) trivial ?_
                refine A_pure (.v (.one (.val (.bool ((v6.1.Read.getD x31.toNat default).Ok))))) [81] [3] (x31.toNat < v6.1.Read.length) (by kernel_rfl) (toNat_lt (inb_of g34)) ?_
                refine A_pure (.v (.one (.bptr 1 0 1))) [3] [] (True) (by kernel_rfl) trivial ?_
                refine A_pure (.v (.one (tl e_Reading default a1.Read))) [83] [1] (True) (by kernel_rfl) trivial ?_
                refine A_pure (.v (.one (.val (.int .i64 x31)))) [9] [] (True) (by kernel_rfl) trivial ?_
                refine A_pure (.v (.one (.lptr (e_Reading (a1.Read.getD x31.toNat default))))) [84, 85] [] (0 ≤ x31 ∧ x31 < ((a1.Read.length : Nat) : Int)) (by kernel_rfl) (inb_of g35) ?_
                refine A_pure (.v (.one (.lptr ((e_Reading (a1.Read.getD x31.toNat default)).drop 2)))) [86] [] (True) (by kernel_rfl) trivial ?_
                refine A_pure (.v (.one (.val (.bool ((a1.Read.getD x31.toNat default).Ok))))) [87] [] (True) (by kernel_rfl) trivial ?_
                refine A_pureE (boolV true) (boolV ((a1.Read.getD x31.toNat default).Ok)) (congrArg boolV b36) [88] [] (True) (by kernel_rfl) trivial ?_
                refine A_skip [89] (by kernel_rfl) ?_
                refine A_skip [89] (by kernel_rfl) ?_
                refine A_skip [89] (by kernel_rfl) ?_
                refine A_skip [89] (by kernel_rfl) ?_
                refine A_skip [89] (by kernel_rfl) ?_
                refine A_skip [89] (by kernel_rfl) ?_
                refine A_pure (.v (.one (.val (.bool true)))) [89, 95] [] (True) (by kernel_rfl) trivial ?_
                refine A_pure (.v (.one (.val (.bool (!(((v6.1.Read.getD x31.toNat default).Ok) == true)))))) [82, 96] [] (True) (by kernel_rfl) trivial ?_
                refine A_pureE (boolV false) (boolV (!(((v6.1.Read.getD x31.toNat default).Ok) == true))) (congrArg boolV b37) [97] [] (True) (by kernel_rfl) trivial ?_
                refine A_pure (.v (.one (.bptr 1 0 1))) [3, 98] [] (True) (by kernel_rfl) trivial ?_
                refine A_pure (.v (.one (tl e_Reading default a1.Read))) [98, 99] [1] (True) (by kernel_rfl) trivial ?_
                refine A_pure (.v (.one (.val (.int .i64 x31)))) [9, 98] [] (True) (by kernel_rfl) trivial ?_
                refine A_pure (.v (.one (.lptr (e_Reading (a1.Read.getD x31.toNat default))))) [98, 100, 101] [] (0 ≤ x31 ∧ x31 < ((a1.Read.length : Nat) : Int)) (by kernel_rfl) (inb_of g35) ?_
                refine A_pure (.v (.one (.lptr ((e_Reading (a1.Read.getD x31.toNat default)).drop 2)))) [98, 102] [] (True) (by kernel_rfl) trivial ?_
                refine A_pure (.v (.one (.val (.bool ((a1.Read.getD x31.toNat default).Ok))))) [98, 103] [] (True) (by kernel_rfl) trivial ?_
                refine A_pureE (boolV false) (boolV ((a1.Read.getD x31.toNat default).Ok)) (congrArg boolV b38) [98, 104] [] (True) (by kernel_rfl) trivial ?_
                refine A_skip [105] (by kernel_rfl) ?_
                refine A_skip [105] (by kernel_rfl) ?_
                refine A_skip [105] (by kernel_rfl) ?_
                refine A_skip [105] (by kernel_rfl) ?_
                refine A_skip [105] (by kernel_rfl) ?_
                refine A_skip [105] (by kernel_rfl) ?_
                refine A_skip [105] (by kernel_rfl) ?_
                refine A_skip [105] (by kernel_rfl) ?_
                refine A_skip [105] (by kernel_rfl) ?_
                refine A_skip [105] (by kernel_rfl) ?_
                refine A_skip [105] (by kernel_rfl) ?_
                refine A_pure (.v (.one (.val (.bool false)))) [98, 105, 116] [] (True) (by kernel_rfl) trivial ?_
                refine A_pure (.v (.one (.val (.bool false)))) [98, 117] [] (True) (by kernel_rfl) trivial ?_
                exact A_end
              · exact J_mk (false) hm (by kernel_rfl) (by kernel_rfl)
        · replace hm := bif_f b36 hm
          obtain ⟨g39, hm⟩ := bif_n hm
          rcases Bool.eq_false_or_eq_true (!(((v6.1.Read.getD x31.toNat default).Ok) == ((a2.Read.getD x31.toNat default).Ok))) with b40 | b40
          · replace hm := bif_t b40 hm
            refine R_draw 9 (rg Tryd.f9 [1, 1, 1, 1, 0, 1, 0, 0, 1, 0, 0, 0]) (by kernel_rfl) [⟨true, .v (.one (.bptr 4 0 1)), [], [], [7], []⟩, ⟨true, .v (.one (.own 3 0 3 v6.1.Read.length)), [], [], [77], [4]⟩, ⟨true, .v (.one (.val (.int .i64 x31))), [], [], [9], []⟩, ⟨true, .v (.one (.rptr 3 0 3 x31.toNat 0)), [], [], [78, 79], []⟩, ⟨true, .v (.one (.rptr 3 0 3 x31.toNat 2)), [], [], [80], []⟩, ⟨true, .v (.one (.val (.bool ((v6.1.Read.getD x31.toNat default).Ok)))), [], [], [81], [3]⟩, ⟨true, .v (.one (.bptr 1 0 1)), [], [], [3], []⟩, ⟨true, .v (.one (tl e_Reading default a1.Read)), [], [], [83], [1]⟩, ⟨true, .v (.one (.val (.int .i64 x31))), [], [], [9], []⟩, ⟨true, .v (.one (.lptr (e_Reading (a1.Read.getD x31.toNat default)))), [], [], [84, 85], []⟩, ⟨true, .v (.one (.lptr ((e_Reading (a1.Read.getD x31.toNat default)).drop 2))), [], [], [86], []⟩, ⟨true, .v (.one (.val (.bool ((a1.Read.getD x31.toNat default).Ok)))), [], [], [87], []⟩, ⟨true, boolV false, [], [], [88], []⟩, ⟨true, .v (.one (.bptr 2 0 1)), [], [], [4, 89], []⟩, ⟨true, .v (.one (tl e_Reading default a2.Read)), [], [], [89, 90], [2]⟩, ⟨true, .v (.one (.val (.int .i64 x31))), [], [], [9, 89], []⟩, ⟨true, .v (.one (.lptr (e_Reading (a2.Read.getD x31.toNat default)))), [], [], [89, 91, 92], []⟩, ⟨true, .v (.one (.lptr ((e_Reading (a2.Read.getD x31.toNat default)).drop 2))), [], [], [89, 93], []⟩, ⟨true, .v (.one (.val (.bool ((a2.Read.getD x31.toNat default).Ok)))), [], [], [89, 94], []⟩, ⟨true, .v (.one (.val (.bool ((a2.Read.getD x31.toNat default).Ok)))), [], [], [89, 95], []⟩, ⟨true, .v (.one (.val (.bool (!(((v6.1.Read.getD x31.toNat default).Ok) == ((a2.Read.getD x31.toNat default).Ok)))))), [], [], [82, 96], []⟩, ⟨true, boolV true, [], [], [97], []⟩, ⟨false, .undef, [], [], [98], []⟩, ⟨false, .undef, [], [], [98], []⟩, ⟨false, .undef, [], [], [98], []⟩, ⟨false, .undef, [], [], [98], []⟩, ⟨false, .undef, [], [], [98], []⟩, ⟨false, .undef, [], [], [98], []⟩, ⟨false, .undef, [], [], [98], []⟩, ⟨false, .undef, [], [], [105], []⟩, ⟨false, .undef, [], [], [105], []⟩, ⟨false, .undef, [], [], [105], []⟩, ⟨false, .undef, [], [], [105], []⟩, ⟨false, .undef, [], [], [105], []⟩, ⟨false, .undef, [], [], [105], []⟩, ⟨false, .undef, [], [], [105], []⟩, ⟨false, .undef, [], [], [105], []⟩, ⟨false, .undef, [], [], [105], []⟩, ⟨false, .undef, [], [], [105], []⟩, ⟨false, .undef, [], [], [105], []⟩, ⟨false, .undef, [], [], [98], []⟩, ⟨true, .v (.one (.val (.bool true))), [], [], [98, 117], []⟩] [0, 1, 0, 7, 15, 31, 0, 64, 0, 448, 960, 1984, 4032, 8128, 16320, 8128, 65472, 131008, 262080, 524224, 1048575, 2097151, 4194303, 8388607, 4194303, 33554431, 67108863, 134217727, 268435455, 536870911, 1073741823, 536870911, 4294967295, 8589934591, 536870911, 17716740095, 536870911, 120795955199, 258234908671, 549755813887, 1099511627775, 2199023255551] (by kernel_rfl) (by kernel_rfl) (by kernel_rfl) (by kernel_rfl) (by kernel_rfl) (by kernel_rfl) ?_ ?_
            · refine A_pure (.v (.one (.bptr 4 0 1))) [7] [] (True) (by kernel_rfl) trivial ?_
              refine A_pure (.v (.one (.own 3 0 3 v6.1.Read.length))) [77] [4] (True) (by kernel_rfl) trivial ?_
              refine A_pure (.v (.one (.val (.int .i64 x31)))) [9] [] (True) (by kernel_rfl) trivial ?_
              refine A_pure (.v (.one (.rptr 3 0 3 x31.toNat 0))) [78, 79] [] (0 ≤ x31 ∧ x31 < ((v6.1.Read.length : Nat) : Int)) (by kernel_rfl) (inb_of g34) ?_
              refine A_pure (.v (.one (.rptr 3 0 3 x31.toNat 2))) [80] [] (True) (by kernel_rfl) trivial ?_
              refine A_pure (.v (.one (.val (.bool ((v6.1.Read.getD x31.toNat default).Ok))))) [81] [3] (x31.toNat < v6.1.Read.length) (by kernel_rfl) (toNat_lt (inb_of g34)) ?_
              refine A_pure (.v (.one (.bptr 1 0 1))) [3] [] (True) (by kernel_rfl) trivial ?_
              refine A_pure (.v (.one (tl e_Reading default a1.Read))) [83] [1] (True) (by kernel_rfl) trivial ?_
              refine A_pure (.v (.one (.val (.int .i64 x31)))) [9] [] (True) (by kernel_rfl) trivial ?_
              refine A_pure (.v (.one (.lptr (e_Reading (a1.Read.getD x31.toNat default))))) [84, 85] [] (0 ≤ x31 ∧ x31 < ((a1.Read.length : Nat) : Int)) (by kernel_rfl) (inb_of g35) ?_
              refine A_pure (.v (.one (.lptr ((e_Reading (a1.Read.getD x31.toNat default)).drop 2)))) [86] [] (True) (by kernel_rfl) trivial ?_
              refine A_pure (.v (.one (.val (.bool ((a1.Read.getD x31.toNat default).Ok))))) [87] [] (True) (by kernel_rfl) trivial ?_
              refine A_pureE (boolV false) (boolV ((a1.Read.getD x31.toNat default).Ok)) (congrArg boolV b36) [88] [] (True) (by kernel_rfl) trivial ?_
              refine A_pure (.v (.one (.bptr 2 0 1))) [4, 89] [] (True) (by kernel_rfl) trivial ?_
              refine A_pure (.v (.one (tl e_Reading default a2.Read))) [89, 90] [2] (True) (by kernel_rfl) trivial ?_
              refine A_pure (.v (.one (.val (.int .i64 x31)))) [9, 89] [] (True) (by kernel_rfl) trivial ?_
              refine A_pure (.v (.one (.lptr (e_Reading (a2.Read.getD x31.toNat default))))) [89, 91, 92] [] (0 ≤ x31 ∧ x31 < ((a2.Read.length : Nat) : Int)) (by kernel_rfl) (inb_of g39) ?_
              refine A_pure (.v (.one (.lptr ((e_Reading (a2.Read.getD x31.toNat default)).drop 2)))) [89, 93] [] (True) (by kernel_rfl) trivial ?_
              refine A_pure (.v (.one (.val (.bool ((a2.Read.getD x31.toNat default).Ok))))) [89, 94] [] (True) (by kernel_rfl) trivial ?_
              refine A_pure (.v (.one (.val (.bool ((a2.Read.getD x31.toNat default).Ok))))) [89, 95] [] (True) (by kernel_rfl) trivial ?_
              refine A_pure (.v (.one (.val (.bool (!(((v6.1.Read.getD x31.toNat default).Ok) == ((a2.Read.getD x31.toNat default).Ok))))))) [82, 96] [] (True) (by kernel_rfl) trivial ?_
              refine A_pureE (boolV true) (boolV (!(((v6.1.Read.getD x31.toNat default).Ok) == ((a2.Read.getD x31.toNat default).Ok)))) (congrArg boolV b40) [97] [] (True) (by kernel_rfl) trivial ?_
              refine A_skip [98] (by kernel_rfl) ?_
              refine A_skip [98] (by kernel_rfl) ?_
              refine A_skip [98] (by kernel_rfl) ?_
              refine A_skip [98] (by kernel_rfl) ?_
              refine A_skip [98] (by kernel_rfl) ?_
              refine A_skip [98] (by kernel_rfl) ?_
              refine A_skip [98] (by kernel_rfl) ?_
              refine A_skip [105] (by kernel_rfl) ?_
              refine A_skip [105] (by kernel_rfl) ?_
              refine A_skip [105] (by kernel_rfl) ?_
              refine A_skip [105] (by kernel_rfl) ?_
              refine A_skip [105] (by kernel_rfl) ?_
              refine A_skip [105] (by kernel_rfl) ?_
              refine A_skip [105] (by kernel_rfl) ?_
              refine A_skip [105] (by kernel_rfl) ?_
              refine A_skip [105] (by kernel_rfl) ?_
              refine A_skip [105] (by kernel_rfl) ?_
              refine A_skip [105] (by kernel_rfl) ?_
              refine A_skip [98] (by kernel_rfl) ?_
              refine A_pure (.v (.one (.val (.bool true)))) [98, 117] [] (True) (by kernel_rfl) trivial ?_
              exact A_end
            · exact J_mk (true) hm (by kernel_rfl) (by kernel_rfl)
          · replace hm := bif_f b40 hm
            rcases Bool.eq_false_or_eq_true ((a1.Read.getD x31.toNat default).Ok) with b41 | b41
            · replace hm := bif_t b41 hm
              refine R_draw 9 (rg Tryd.f9 [1, 1, 1, 1, 0, 1, 0, 0, 1, 0, 0, 0]) (by kernel_rfl) [⟨true, .v (.one (.bptr 4 0 1)), [], [], [7], []⟩, ⟨true, .v (.one (.own 3 0 3 v6.1.Read.length)), [], [], [77], [4]⟩, ⟨true, .v (.one (.val (.int .i64 x31))), [], [], [9], []⟩, ⟨true, .v (.one (.rptr 3 0 3 x31.toNat 0)), [], [], [78, 79], []⟩, ⟨true, .v (.one (.rptr 3 0 3 x31.toNat 2)), [], [], [80], []⟩, ⟨true, .v (.one (.val (.bool ((v6.1.Read.getD x31.toNat default).Ok)))), [], [], [81], [3]⟩, ⟨true, .v (.one (.bptr 1 0 1)), [], [], [3], []⟩, ⟨true, .v (.one (tl e_Reading default a1.Read)), [], [], [83], [1]⟩, ⟨true, .v (.one (.val (.int .i64 x31))), [], [], [9], []⟩, ⟨true, .v (.one (.lptr (e_Reading (a1.Read.getD x31.toNat default)))), [], [], [84, 85], []⟩, ⟨true, .v (.one (.lptr ((e_Reading (a1.Read.getD x31.toNat default)).drop 2))), [], [], [86], []⟩, ⟨true, .v (.one (.val (.bool ((a1.Read.getD x31.toNat default).Ok)))), [], [], [87], []⟩, ⟨true, boolV false, [], [], [88], []⟩, ⟨true, .v (.one (.bptr 2 0 1)), [], [], [4, 89], []⟩, ⟨true, .v (.one (tl e_Reading default a2.Read)), [], [], [89, 90], [2]⟩, ⟨true, .v (.one (.val (.int .i64 x31))), [], [], [9, 89], []⟩, ⟨true, .v (.one (.lptr (e_Reading (a2.Read.getD x31.toNat default)))), [], [], [89, 91, 92], []⟩, ⟨true, .v (.one (.lptr ((e_Reading (a2.Read.getD x31.toNat default)).drop 2))), [], [], [89, 93], []⟩, ⟨true, .v (.one (.val (.bool ((a2.Read.getD x31.toNat default).Ok)))), [], [], [89, 94], []⟩, ⟨true, .v (.one (.val (.bool ((a2.Read.getD x31.toNat default).Ok)))), [], [], [89, 95], []⟩, ⟨true, .v (.one (.val (.bool (!(((v6.1.Read.getD x31.toNat default).Ok) == ((a2.Read.getD x31.toNat default).Ok)))))), [], [], [82, 96], []⟩, ⟨true, boolV false, [], [], [97], []⟩, ⟨true, .v (.one (.bptr 1 0 1)), [], [], [3, 98], []⟩, ⟨true, .v (.one (tl e_Reading default a1.Read)), [], [], [98, 99], [1]⟩, ⟨true, .v (.one (.val (.int .i64 x31))), [], [], [9, 98], []⟩, ⟨true, .v (.one (.lptr (e_Reading (a1.Read.getD x31.toNat default)))), [], [], [98, 100, 101], []⟩, ⟨true, .v (.one (.lptr ((e_Reading (a1.Read.getD x31.toNat default)).drop 2))), [], [], [98, 102], []⟩, ⟨true, .v (.one (.val (.bool ((a1.Read.getD x31.toNat default).Ok)))), [], [], [98, 103], []⟩, ⟨true, boolV true, [], [], [98, 104], []⟩, ⟨true, .v (.one (.bptr 4 0 1)), [], [], [7, 105], []⟩, ⟨true, .v (.one (.own 3 0 3 v6.1.Read.length)), [], [], [105, 106], [4]⟩, ⟨true, .v (.one (.val (.int .i64 x31))), [], [], [9, 105], []⟩, ⟨true, .v (.one (.rptr 3 0 3 x31.toNat 0)), [], [], [105, 107, 108], []⟩, ⟨true, .v (.agg [.val (.int .i64 (((v6.1.Read.getD x31.toNat default).P).X)), .val (.int .i64 (((v6.1.Read.getD x31.toNat default).P).Y)), .val (.bool ((v6.1.Read.getD x31.toNat default).Ok))]), [], [], [105, 109], [3]⟩, ⟨true, .v (.one (.bptr 1 0 1)), [], [], [3, 105], []⟩, ⟨true, .v (.one (tl e_Reading default a1.Read)), [], [], [105, 111], [1]⟩, ⟨true, .v (.one (.val (.int .i64 x31))), [], [], [9, 105], []⟩, ⟨true, .v (.one (.lptr (e_Reading (a1.Read.getD x31.toNat default)))), [], [], [105, 112, 113], []⟩, ⟨true, .v (.agg [.val (.int .i64 (((a1.Read.getD x31.toNat default).P).X)), .val (.int .i64 (((a1.Read.getD x31.toNat default).P).Y)), .val (.bool ((a1.Read.getD x31.toNat default).Ok))]), [], [], [105, 114], []⟩, ⟨true, .v (.one (.val (.bool (!(((((v6.1.Read.getD x31.toNat default).P).X == ((a1.Read.getD x31.toNat default).P).X) && ((((v6.1.Read.getD x31.toNat default).P).Y == ((a1.Read.getD x31.toNat default).P).Y) && true)) && (((v6.1.Read.getD x31.toNat default).Ok == (a1.Read.getD x31.toNat default).Ok) && true)))))), [], [], [105, 110, 115], []⟩, ⟨true, .v (.one (.val (.bool (!(((((v6.1.Read.getD x31.toNat default).P).X == ((a1.Read.getD x31.toNat default).P).X) && ((((v6.1.Read.getD x31.toNat default).P).Y == ((a1.Read.getD x31.toNat default).P).Y) && true)) && (((v6.1.Read.getD x31.toNat default).Ok == (a1.Read.getD x31.toNat default).Ok) && true)))))), [], [], [98, 105, 116], []⟩, ⟨true, .v (.one (.val (.bool (!(((((v6.1.Read.getD x31.toNat default).P).X == ((a1.Read.getD x31.toNat default).P).X) && ((((v6.1.Read.getD x31.toNat default).P).Y == ((a1.Read.getD x31.toNat default).P).Y) && true)) && (((v6.1.Read.getD x31.toNat default).Ok == (a1.Read.getD x31.toNat default).Ok) && true)))))), [], [], [98, 117], []⟩] [0, 1, 0, 7, 15, 31, 0, 64, 0, 448, 960, 1984, 4032, 8128, 16320, 8128, 65472, 131008, 262080, 524224, 1048575, 2097151, 4194303, 8388607, 4194303, 33554431, 67108863, 134217727, 268435455, 536870911, 1073741823, 536870911, 4294967295, 8589934591, 536870911, 17716740095, 536870911, 120795955199, 258234908671, 549755813887, 1099511627775, 2199023255551] (by kernel_rfl) (by kernel_rfl) (by kernel_rfl) (by kernel_rfl) (by kernel_rfl) (by kernel_rfl) ?_ ?_
              · refine A_pure (.v (.one (.bptr 4 0 1))) [7] [] (True) (by kernel_rfl) trivial ?_
                refine A_pure (.v (.one (.own 3 0 3 v6.1.Read.length))) [77] [4] (True) (by kernel_rfl) trivial ?_
                refine A_pure (.v (.one (.val (.int .i64 x31)))) [9] [] (True) (by kernel_rfl) trivial ?_
                refine A_pure (.v (.one (.rptr 3 0 3 x31.toNat 0))) [78, 79] [] (0 ≤ x31 ∧ x31 < ((v6.1.Read.length : Nat) : Int)) (by kernel_rfl) (inb_of g34) ?_
                refine A_pure (.v (.one (.rptr 3 0 3 x31.toNat 2))) [80] [] (True) (by kernel_rfl) trivial ?_
                refine A_pure (.v (.one (.val (.bool ((v6.1.Read.getD x31.toNat default).Ok))))) [81] [3] (x31.toNat < v6.1.Read.length) (by kernel_rfl) (toNat_lt (inb_of g34)) ?_
                refine A_pure (.v (.one (.bptr 1 0 1))) [3] [] (True) (by kernel_rfl) trivial ?_
                refine A_pure (.v (.one (tl e_Reading default a1.Read))) [83] [1] (True) (by kernel_rfl) trivial ?_
                refine A_pure (.v (.one (.val (.int .i64 x31)))) [9] [] (True) (by kernel_rfl) trivial ?_
                refine A_pure (.v (.one (.lptr (e_Reading (a1.Read.getD x31.toNat default))))) [84, 85] [] (0 ≤ x31 ∧ x31 < ((a1.Read.length : Nat) : Int)) (by kernel_rfl) (inb_of g35) ?_
                refine A_pure (.v (.one (.lptr ((e_Reading (a1.Read.getD x31.toNat default)).drop 2)))) [86] [] (True) (by kernel_rfl) trivial ?_
                refine A_pure (.v (.one (.val (.bool ((a1.Read.getD x31.toNat default).Ok))))) [87] [] (True) (by kernel_rfl) trivial ?_
                refine A_pureE (boolV false) (boolV ((a1.Read.getD x31.toNat default).Ok)) (congrArg boolV b36) [88] [] (True) (by kernel_rfl) trivial ?_
                refine A_pure (.v (.one (.bptr 2 0 1))) [4, 89] [] (True) (by kernel_rfl) trivial ?_
                refine A_pure (.v (.one (tl e_Reading default a2.Read))) [89, 90] [2] (True) (by kernel_rfl) trivial ?_
                refine A_pure (.v (.one (.val (.int .i64 x31)))) [9, 89] [] (True) (by kernel_rfl) trivial ?_
                refine A_pure (.v (.one (.lptr (e_Reading (a2.Read.getD x31.toNat default))))) [89, 91, 92] [] (0 ≤ x31 ∧ x31 < ((a2.Read.length : Nat) : Int)) (by kernel_rfl) (inb_of g39) ?_
                refine A_pure (.v (.one (.lptr ((e_Reading (a2.Read.getD x31.toNat default)).drop 2)))) [89, 93] [] (True) (by kernel_rfl) trivial ?_
                refine A_pure (.v (.one (.val (.bool ((a2.Read.getD x31.toNat default).Ok))))) [89, 94] [] (True) (by kernel_rfl) trivial ?_
                refine A_pure (.v (.one (.val (.bool ((a2.Read.getD x31.toNat default).Ok))))) [89, 95] [] (True) (by kernel_rfl) trivial ?_
                refine A_pure (.v (.one (.val (.bool (!(((v6.1.Read.getD x31.toNat default).Ok) == ((a2.Read.getD x31.toNat default).Ok))))))) [82, 96] [] (True) (by kernel_rfl) trivial ?_
                refine A_pureE (boolV false) (boolV (!(((v6.1.Read.getD x31.toNat default).Ok) == ((a2.Read.getD x31.toNat default).Ok)))) (congrArg boolV b40) [97] [] (True) (by kernel_rfl) trivial ?_
                refine A_pure (.v (.one (.bptr 1 0 1))) [3, 98] [] (True) (by kernel_rfl) trivial ?_
                refine A_pure (.v (.one (tl e_Reading default a1.Read))) [98, 99] [1] (True) (by kernel_rfl) trivial ?_
                refine A_pure (.v (.one (.val (.int .i64 x31)))) [9, 98] [] (True) (by kernel_rfl) trivial ?_
                refine A_pure (.v (.one (.lptr (e_Reading (a1.Read.getD x31.toNat default))))) [98, 100, 101] [] (0 ≤ x31 ∧ x31 < ((a1.Read.length : Nat) : Int)) (by kernel_rfl) (inb_of g35) ?_
                refine A_pure (.v (.one (.lptr ((e_Reading (a1.Read.getD x31.toNat default)).drop 2)))) [98, 102] [] (True) (by kernel_rfl) trivial ?_
                refine A_pure (.v (.one (.val (.bool ((a1.Read.getD x31.toNat default).Ok))))) [98, 103] [] (True) (by kernel_rfl) trivial ?_
                refine A_pureE (boolV true) (boolV ((a1.Read.getD x31.toNat default).Ok)) (congrArg boolV b41) [98, 104] [] (True) (by kernel_rfl) trivial ?_
                refine A_pure (.v (.one (.bptr 4 0 1))) [7, 105] [] (True) (by kernel_rfl) trivial ?_
                refine A_pure (.v (.one (.own 3 0 3 v6.1.Read.length))) [105, 106] [4] (True) (by kernel_rfl) trivial ?_
                refine A_pure (.v (.one (.val (.int .i64 x31)))) [9, 105] [] (True) (by kernel_rfl) trivial ?_
                refine A_pure (.v (.one (.rptr 3 0 3 x31.toNat 0))) [105, 107, 108] [] (0 ≤ x31 ∧ x31 < ((v6.1.Read.length : Nat) : Int)) (by kernel_rfl) (inb_of g34) ?_
                refine A_pure (.v (.agg [.val (.int .i64 (((v6.1.Read.getD x31.toNat default).P).X)), .val (.int .i64 (((v6.1.Read.getD x31.toNat default).P).Y)), .val (.bool ((v6.1.Read.getD x31.toNat default).Ok))])) [105, 109] [3] (x31.toNat < v6.1.Read.length) (by kernel_rfl) (toNat_lt (inb_of g34)) ?_
                refine A_pure (.v (.one (.bptr 1 0 1))) [3, 105] [] (True) (by kernel_rfl) trivial ?_
                refine A_pure (.v (.one (tl e_Reading default a1.Read))) [105, 111] [1] (True) (by kernel_rfl) trivial ?_
                refine A_pure (.v (.one (.val (.int .i64 x31)))) [9, 105] [] (True) (by kernel_rfl) trivial ?_
                refine A_pure (.v (.one (.lptr (e_Reading (a1.Read.getD x31.toNat default))))) [105, 112, 113] [] (0 ≤ x31 ∧ x31 < ((a1.Read.length : Nat) : Int)) (by kernel_rfl) (inb_of g35) ?_
                refine A_pure (.v (.agg [.val (.int .i64 (((a1.Read.getD x31.toNat default).P).X)), .val (.int .i64 (((a1.Read.getD x31.toNat default).P).Y)), .val (.bool ((a1.Read.getD x31.toNat default).Ok))])) [105, 114] [] (True) (by kernel_rfl) trivial ?_
                refine A_pure (.v (.one (.val (.bool (!(((((v6.1.Read.getD x31.toNat default).P).X == ((a1.Read.getD x31.toNat default).P).X) && ((((v6.1.Read.getD x31.toNat default).P).Y == ((a1.Read.getD x31.toNat default).P).Y) && true)) && (((v6.1.Read.getD x31.toNat default).Ok == (a1.Read.getD x31.toNat default).Ok) && true))))))) [105, 110, 115] [] (True) (by kernel_rfl) trivial ?_
                refine A_pure (.v (.one (.val (.bool (!(((((v6.1.Read.getD x31.toNat default).P).X == ((a1.Read.getD x31.toNat default).P).X) && ((((v6.1.Read.getD x31.toNat default).P).Y == ((a1.Read.getD x31.toNat default).P).Y) && true)) && (((v6.1.Read.getD x31.toNat default).Ok == (a1.Read.getD x31.toNat default).Ok) && true))))))) [98, 105, 116] [] (True) (by kernel_rfl) trivial ?_
                refine A_pure (.v (.one (.val (.bool (!(((((v6.1.Read.getD x31.toNat default).P).X == ((a1.Read.getD x31.toNat default).P).X) && ((((v6.1.Read.getD x31.toNat default).P).Y == ((a1.Read.getD x31.toNat default).P).Y) && true)) && (((v6.1.Read.getD x31.toNat default).Ok == (a1.Read.getD x31.toNat default).Ok) && true))))))) [98, 117] [] (True) (by kernel_rfl) trivial ?_
                exact A_end
              · exact J_mk (!(((((v6.1.Read.getD x31.toNat default).P).X == ((a1.Read.getD x31.toNat default).P).X) && ((((v6.1.Read.getD x31.toNat default).P).Y == ((a1.Read.getD x31.toNat default).P).Y) && true)) && (((v6.1.Read.getD x31.toNat default).Ok == (a1.Read.getD x31.toNat default).Ok) && true))) hm (by kernel_rfl) (by kernel_rfl)
            · replace hm := bif_f b41 hm
              refine R_draw 9 (rg Tryd.f9 [1, 1, 1, 1, 0, 1, 0, 0, 1, 0, 0, 0]) (by kernel_rfl) [⟨true, .v (.one (.bptr 4 0 1)), [], [], [7], []⟩, ⟨true, .v (.one (.own 3 0 3 v6.1.Read.length)), [], [], [77], [4]⟩, ⟨true, .v (.one (.val (.int .i64 x31))), [], [], [9], []⟩, ⟨true, .v (.one (.rptr 3 0 3 x31.toNat 0)), [], [], [78, 79], []⟩, ⟨true, .v (.one (.rptr 3 0 3 x31.toNat 2)), [], [], [80], []⟩, ⟨true, .v (.one (.val (.bool ((v6.1.Read.getD x31.toNat default).Ok)))), [], [], [81], [3]⟩, ⟨true, .v (.one (.bptr 1 0 1)), [], [], [3], []⟩, ⟨true, .v (.one (tl e_Reading default a1.Read)), [], [], [83], [1]⟩, ⟨true, .v (.one (.val (.int .i64 x31))), [], [], [9], []⟩, ⟨true, .v (.one (.lptr (e_Reading (a1.Read.getD x31.toNat default)))), [], [], [84, 85], []⟩, ⟨true, .v (.one (.lptr ((e_Reading (a1.Read.getD x31.toNat default)).drop 2))), [], [], [86], []⟩, ⟨true, .v (.one (.val (.bool ((a1.Read.getD x31.toNat default).Ok)))), [], [], [87], []⟩, ⟨true, boolV false, [], [], [88], []⟩, ⟨true, .v (.one (.bptr 2 0 1)), [], [], [4, 89], []⟩, ⟨true, .v (.one (tl e_Reading default a2.Read)), [], [], [89, 90], [2]⟩, ⟨true, .v (.one (.val (.int .i64 x31))), [], [], [9, 89], []⟩, ⟨true, .v (.one (.lptr (e_Reading (a2.Read.getD x31.toNat default)))), [], [], [89, 91, 92], []⟩, ⟨true, .v (.one (.lptr ((e_Reading (a2.Read.getD x31.toNat default)).drop 2))), [], [], [89, 93], []⟩, ⟨true, .v (.one (.val (.bool ((a2.Read.getD x31.toNat default).Ok)))), [], [], [89, 94], []⟩, ⟨true, .v (.one (.val (.bool ((a2.Read.getD x31.toNat default).Ok)))), [], [], [89, 95], []⟩, ⟨true, .v (.one (.val (.bool (!(((v6.1.Read.getD x31.toNat default).Ok) == ((a2.Read.getD x31.toNat default).Ok)))))), [], [], [82, 96], []⟩, ⟨true, boolV false, [], [], [97], []⟩, ⟨true, .v (.one (.bptr 1 0 1)), [], [], [3, 98], []⟩, ⟨true, .v (.one (tl e_Reading default a1.Read)), [], [], [98, 99], [1]⟩, ⟨true, .v (.one (.val (.int .i64 x31))), [], [], [9, 98], []⟩, ⟨true, .v (.one (.lptr (e_Reading (a1.Read.getD x31.toNat default)))), [], [], [98, 100, 101], []⟩, ⟨true, .v (.one (.lptr ((e_Reading (a1.Read.getD x31.toNat default)).drop 2))), [], [], [98, 102], []⟩, ⟨true, .v (.one (.val (.bool ((a1.Read.getD x31.toNat default).Ok)))), [], [], [98, 103], []⟩, ⟨true, boolV false, [], [], [98, 104], []⟩, ⟨false, .undef, [], [], [105], []⟩, ⟨false, .undef, [], [], [105], []⟩, ⟨false, .undef, [], [], [105], []⟩, ⟨false, .undef, [], [], [105], []⟩, ⟨false, .undef, [], [], [105], []⟩, ⟨false, .undef, [], [], [105], []⟩, ⟨false, .undef, [], [], [105], []⟩, ⟨false, .undef, [], [], [105], []⟩, ⟨false, .undef, [], [], [105], []⟩, ⟨false, .undef, [], [], [105], []⟩, ⟨false, .undef, [], [], [105], []⟩, ⟨true, .v (.one (.val (.bool false))), [], [], [98, 105, 116], []⟩, ⟨true, .v (.one (.val (.bool false))), [], [], [98, 117], []⟩] [0, 1, 0, 7, 15, 31, 0, 64, 0, 448, 960, 1984, 4032, 8128, 16320, 8128, 65472, 131008, 262080, 524224, 1048575, 2097151, 4194303, 8388607, 4194303, 33554431, 67108863, 134217727, 268435455, 536870911, 1073741823, 536870911, 4294967295, 8589934591, 536870911, 17716740095, 536870911, 120795955199, 258234908671, 549755813887, 1099511627775, 2199023255551] (by kernel_rfl) (by kernel_rfl) (by kernel_rfl) (by kernel_rfl) (by kernel_rfl) (by kernel_rfl) ?_ ?_
              · refine A_pure (.v (.one (.bptr 4 0 1))) [7] [] (True) (by kernel_rfl) trivial ?_
                refine A_pure (.v (.one (.own 3 0 3 v6.1.Read.length))) [77] [4] (True) (by kernel_rfl) trivial ?_
                refine A_pure (.v (.one (.val (.int .i64 x31)))) [9] [] (True) (by kernel_rfl) trivial ?_
                refine A_pure (.v (.one (.rptr 3 0 3 x31.toNat 0))) [78, 79] [] (0 ≤ x31 ∧ x31 < ((v6.1.Read.length : Nat) : Int)) (by kernel_rfl) (inb_of g34) ?_
                refine A_pure (.v (.one (.rptr 3 0 3 x31.toNat 2))) [80] [] (True) (by kernel_rfl) trivial ?_
                refine A_pure (.v (.one (.val (.bool ((v6.1.Read.getD x31.toNat default).Ok))))) [81] [3] (x31.toNat < v6.1.Read.length) (by kernel_rfl) (toNat_lt (inb_of g34)) ?_
                refine A_pure (.v (.one (.bptr 1 0 1))) [3] [] (True) (by kernel_rfl) trivial ?_
                refine A_pure (.v (.one (tl e_Reading default a1.Read))) [83] [1] (True) (by kernel_rfl) trivial ?_
                refine A_pure (.v (.one (.val (.int .i64 x31)))) [9] [] (True) (by kernel_rfl) trivial ?_
                refine A_pure (.v (.one (.lptr (e_Reading (a1.Read.getD x31.toNat default))))) [84, 85] [] (0 ≤ x31 ∧ x31 < ((a1.Read.length : Nat) : Int)) (by kernel_rfl) (inb_of g35) ?_
                refine A_pure (.v (.one (.lptr ((e_Reading (a1.Read.getD x31.toNat default)).drop 2)))) [86] [] (True) (by kernel_rfl) trivial ?_
                refine A_pure (.v (.one (.val (.bool ((a1.Read.getD x31.toNat default).Ok))))) [87] [] (True) (by kernel_rfl) trivial ?_
                refine A_pureE (boolV false) (boolV ((a1.Read.getD x31.toNat default).Ok)) (congrArg boolV b36) [88] [] (True) (by kernel_rfl) trivial ?_
                refine A_pure (.v (.one (.bptr 2 0 1))) [4, 89] [] (True) (by kernel_rfl) trivial ?_
                refine A_pure (.v (.one (tl e_Reading default a2.Read))) [89, 90] [2] (True) (by kernel_rfl) trivial ?_
                refine A_pure (.v (.one (.val (.int .i64 x31)))) [9, 89] [] (True) (by kernel_rfl) trivial ?_
                refine A_pure (.v (.one (.lptr (e_Reading (a2.Read.getD x31.toNat default))))) [89, 91, 92] [] (0 ≤ x31 ∧ x31 < ((a2.Read.length : Nat) : Int)) (by kernel_rfl) (inb_of g39) ?_
                refine A_pure (.v (.one (.lptr ((e_Reading (a2.Read.getD x31.toNat default)).drop 2)))) [89, 93] [] (True) (by kernel_rfl) trivial ?_
                refine A_pure (.v (.one (.val (.bool ((a2.Read.getD x31.toNat default).Ok))))) [89, 94] [] (True) (by kernel_rfl) trivial ?_
                refine A_pure (.v (.one (.val (.bool ((a2.Read.getD x31.toNat default).Ok))))) [89, 95] [] (True) (by kernel_rfl) trivial ?_
                refine A_pure (.v (.one (.val (.bool (!(((v6.1.Read.getD x31.toNat default).Ok) == ((a2.Read.getD x31.toNat default).Ok))))))) [82, 96] [] (True) (by kernel_rfl) trivial ?_
                refine A_pureE (boolV false) (boolV (!(((v6.1.Read.getD x31.toNat default).Ok) == ((a2.Read.getD x31.toNat default).Ok)))) (congrArg boolV b40) [97] [] (True) (by kernel_rfl) trivial ?_
                refine A_pure (.v (.one (.bptr 1 0 1))) [3, 98] [] (True) (by kernel_rfl) trivial ?_
                refine A_pure (.v (.one (tl e_Reading default a1.Read))) [98, 99] [1] (True) (by kernel_rfl) trivial ?_
                refine A_pure (.v (.one (.val (.int .i64 x31)))) [9, 98] [] (True) (by kernel_rfl) trivial ?_
                refine A_pure (.v (.one (.lptr (e_Reading (a1.Read.getD x31.toNat default))))) [98, 100, 101] [] (0 ≤ x31 ∧ x31 < ((a1.Read.length : Nat) : Int)) (by kernel_rfl) (inb_of g35) ?_
                refine A_pure (.v (.one (.lptr ((e_Reading (a1.Read.getD x31.toNat default)).drop 2)))) [98, 102] [] (True) (by kernel_rfl) trivial ?_
                refine A_pure (.v (.one (.val (.bool ((a1.Read.getD x31.toNat default).Ok))))) [98, 103] [] (True) (by kernel_rfl) trivial ?_
                refine A_pureE (boolV false) (boolV ((a1.Read.getD x31.toNat default).Ok)) (congrArg boolV b41) [98, 104] [] (True) (by kernel_rfl) trivial ?_
                refine A_skip [105] (by kernel_rfl) ?_
                refine A_skip [105] (by kernel_rfl) ?_
                refine A_skip [105] (by kernel_rfl) ?_
                refine A_skip [105] (by kernel_rfl) ?_
                refine A_skip [105] (by kernel_rfl) ?_
                refine A_skip [105] (by kernel_rfl) ?_
                refine A_skip [105] (by kernel_rfl) ?_
                refine A_skip [105] (by kernel_rfl) ?_
                refine A_skip [105] (by kernel_rfl) ?_
                refine A_skip [105] (by kernel_rfl) ?_
                refine A_skip [105] (by kernel_rfl) ?_
                refine A_pure (.v (.one (.val (.bool false)))) [98, 105, 116] [] (True) (by kernel_rfl) trivial ?_
                refine A_pure (.v (.one (.val (.bool false)))) [98, 117] [] (True) (by kernel_rfl) trivial ?_
                exact A_end
              · exact J_mk (false) hm (by kernel_rfl) (by kernel_rfl)
    · replace hm := bif_f b33 hm
      refine R_exit 0 (by kernel_rfl) ?_
      obtain rfl := Option.some.inj hm
      exact L1_mk () (by kernel_rfl) (by kernel_rfl)

set_option maxRecDepth 100000 in
theorem law12_RingTwice_ok (a1 : Ring) (a2 : Ring) (a3 : Int) (r : Bool) (hm : law12_RingTwice a1 a2 a3 = some r) : Ct Tryd.prog globs 9 [.agg [.val (.int .i64 a1.Z), tl e_Reading default a1.Read], .agg [.val (.int .i64 a2.Z), tl e_Reading default a2.Read], .one (.val (.int .i64 a3))] (law12_RingTwice_x r) (law12_RingTwice_o r) := by
  unfold law12_RingTwice at hm
  refine Ct_of_H (fn := Tryd.f9) (c := nd Tryd.f9 []) mixed (by kernel_rfl) (by kernel_rfl) (by kernel_rfl) fun w A hg => ?_
  show H ({ P := Tryd.prog, w0 := w, nt := 183, A := A, globs := globs, mixed := mixed, glob := hg } : Ctx) _ _ _
  refine R_seq (nd Tryd.f9 [0]) (nd Tryd.f9 [1]) (by kernel_rfl) ?_
  refine R_region 0 (rg Tryd.f9 [0]) (by kernel_rfl) ?_
  have k4 : opsOk 183 (rg Tryd.f9 [0]) = true := by kernel_rfl
  refine P_step k4 ([(1, 0)]) ([(1, (0, .box 24 [.val (.int .i64 a1.Z), tl e_Reading default a1.Read]))]) (.v (.one (.bptr 1 0 0))) (by kernel_rfl) (Step_box 24 (.tmp 0) 1 0 (.agg [.val (.int .i64 a1.Z), tl e_Reading default a1.Read]) (by kernel_rfl) (by kernel_rfl) (by kernel_rfl)) ?_
  refine P_step k4 ([(2, 0)]) ([(2, (0, .box 24 [.val (.int .i64 a2.Z), tl e_Reading default a2.Read]))]) (.v (.one (.bptr 2 0 0))) (by kernel_rfl) (Step_box 24 (.tmp 1) 2 0 (.agg [.val (.int .i64 a2.Z), tl e_Reading default a2.Read]) (by kernel_rfl) (by kernel_rfl) (by kernel_rfl)) ?_
  refine P_op k4 (.v (.one (.val (.bool false)))) (by kernel_rfl) ?_
  refine HOps_end (by kernel_rfl) ?_
  refine R_seq (nd Tryd.f9 [1, 0]) (nd Tryd.f9 [1, 1]) (by kernel_rfl) ?_
  refine R_region 1 (rg Tryd.f9 [1, 0]) (by kernel_rfl) ?_
  have k5 : opsOk 183 (rg Tryd.f9 [1, 0]) = true := by kernel_rfl
  refine P_op k5 (.v (.agg [.val (.int .i64 a1.Z), tl e_Reading default a1.Read])) (by kernel_rfl) ?_
  refine P_op k5 (.v (.agg [.val (.int .i64 a2.Z), tl e_Reading default a2.Read])) (by kernel_rfl) ?_
  obtain ⟨v6, h7, hm⟩ := bind_s hm
  refine P_step k5 (obNv 3 (ring_Merge_o v6)) (obSh 3 (ring_Merge_o v6)) ((ring_Merge_x v6).sh 3) (by kernel_rfl) (Step_call (x := ring_Merge_x v6) (ob := ring_Merge_o v6) (f := 23) (args := [(.tmp 20), (.tmp 21)]) (fn := Tryd.f23) (ys := [.agg [.val (.int .i64 a1.Z), tl e_Reading default a1.Read], .agg [.val (.int .i64 a2.Z), tl e_Reading default a2.Read]]) 3 (by kernel_rfl) (by kernel_rfl) (by kernel_rfl) (by kernel_rfl) (by kernel_rfl) (by kernel_rfl) rfl (ring_Merge_ok a1 a2 v6 h7) (by kernel_rfl) (by kernel_rfl)) ?_
  refine P_op k5 (.tup [.agg [.val (.int .i64 v6.1.Z), .own 3 0 3 v6.1.Read.length], .one (.val (.int .i64 v6.2))]) (by kernel_rfl) ?_
  refine P_op k5 (.v (.agg [.val (.int .i64 v6.1.Z), .own 3 0 3 v6.1.Read.length])) (by kernel_rfl) ?_
  refine P_op k5 (.v (.one (.val (.int .i64 v6.2)))) (by kernel_rfl) ?_
  refine P_step k5 ([(4, 0)]) ([(4, (0, .box 24 [.val (.int .i64 0), .emp]))]) (.v (.one (.bptr 4 0 0))) (by kernel_rfl) (Step_alloc 24 4 0 [.val (.int .i64 0), .emp] (by kernel_rfl) (by kernel_rfl) (by kernel_rfl)) ?_
  refine P_write k5 ([(4, (0, .box 24 [.val (.int .i64 v6.1.Z), .own 3 0 3 v6.1.Read.length]))]) (.undef) (by kernel_rfl) (Step_store_box 24 (.tmp 7) (.tmp 23) 4 0 0 24 [.val (.int .i64 0), .emp] (.agg [.val (.int .i64 v6.1.Z), .own 3 0 3 v6.1.Read.length]) [.val (.int .i64 v6.1.Z), .own 3 0 3 v6.1.Read.length] (by kernel_rfl) (by kernel_rfl) (by kernel_rfl) (by kernel_rfl) (by kernel_rfl) (by kernel_rfl) (by kernel_rfl) (by kernel_rfl)) ?_
  refine P_op k5 (.v (.one (.val (.int .i64 v6.2)))) (by kernel_rfl) ?_
  refine HOps_end (by kernel_rfl) ?_
  refine R_seq (nd Tryd.f9 [1, 1, 0]) (nd Tryd.f9 [1, 1, 1]) (by kernel_rfl) ?_
  refine R_seq (nd Tryd.f9 [1, 1, 0, 0]) (nd Tryd.f9 [1, 1, 0, 1]) (by kernel_rfl) ?_
  refine R_region 2 (rg Tryd.f9 [1, 1, 0, 0]) (by kernel_rfl) ?_
  have k8 : opsOk 183 (rg Tryd.f9 [1, 1, 0, 0]) = true := by kernel_rfl
  refine P_op k8 (.v (.one (.val (.int .i64 v6.2)))) (by kernel_rfl) ?_
  refine P_op k8 (.v (.one (.val (.bool (v6.2 != 0))))) (by kernel_rfl) ?_
  refine HOps_end (by kernel_rfl) ?_
  refine R_cond (.tmp 26) (nd Tryd.f9 [1, 1, 0, 1, 0]) (nd Tryd.f9 [1, 1, 0, 1, 1]) (by kernel_rfl) (v6.2 != 0) (by kernel_rfl) (fun b9 => ?_) (fun b9 => ?_)
  · replace hm := bif_t b9 hm
    refine R_join (ι := Bool) (nd Tryd.f9 [1, 1, 0, 1, 0, 0]) (nd Tryd.f9 [1, 1, 0, 1, 0, 1]) (by kernel_rfl) (fun p => law12_RingTwice_k1_S p) (fun p => law12_RingTwice_k1 p = some r) ?_ ?_
    · rintro x15 hm
      show H _ (law12_RingTwice_k1_S x15) (nd Tryd.f9 [1, 1, 0, 1, 0, 1]) _
      obtain rfl := Option.some.inj hm
      refine R_ret (by kernel_rfl) ?_
      exact ret_mk (by kernel_rfl) (by kernel_rfl)
    · refine R_region 3 (rg Tryd.f9 [1, 1, 0, 1, 0, 0]) (by kernel_rfl) ?_
      have k10 : opsOk 183 (rg Tryd.f9 [1, 1, 0, 1, 0, 0]) = true := by kernel_rfl
      refine P_op k10 (.v (.one (.bptr 4 0 1))) (by kernel_rfl) ?_
      refine P_op k10 (.v (.one (.own 3 0 3 v6.1.Read.length))) (by kernel_rfl) ?_
      refine P_op k10 (.v (.one (.val (.int .i64 ((v6.1.Read.length : Nat) : Int))))) (by kernel_rfl) ?_
      refine P_op k10 (.v (.one (.val (.bool (((v6.1.Read.length : Nat) : Int) == 0))))) (by kernel_rfl) ?_
      refine P_op k10 (.v (.one (.val (.bool (((v6.1.Read.length : Nat) : Int) == 0))))) (by kernel_rfl) ?_
      refine HOps_bool 31 (((v6.1.Read.length : Nat) : Int) == 0) (by kernel_rfl) (fun b11 => ?_) (fun b11 => ?_)
      · replace hm := bif_t b11 hm
        refine P_op k10 (.v (.one (.bptr 4 0 0))) (by kernel_rfl) ?_
        refine P_op k10 (.v (.one (.val (.int .i64 v6.1.Z)))) (by kernel_rfl) ?_
        refine P_op k10 (.v (.one (.val (.bool (v6.1.Z == 0))))) (by kernel_rfl) ?_
        refine P_op k10 (.v (.one (.val (.bool (v6.1.Z == 0))))) (by kernel_rfl) ?_
        refine P_op k10 (.v (.one (.val (.bool (v6.1.Z == 0))))) (by kernel_rfl) ?_
        refine HOps_bool 36 (v6.1.Z == 0) (by kernel_rfl) (fun b12 => ?_) (fun b12 => ?_)
        · replace hm := bif_t b12 hm
          obtain ⟨v13, h14, hm⟩ := bind_s hm
          refine P_step k10 (obNv 5 (law12_awake_o v13)) (obSh 5 (law12_awake_o v13)) ((law12_awake_x v13).sh 5) (by kernel_rfl) (Step_call (x := law12_awake_x v13) (ob := law12_awake_o v13) (f := 11) (args := []) (fn := Tryd.f11) (ys := []) 5 (by kernel_rfl) (by kernel_rfl) (by kernel_rfl) (by kernel_rfl) (by kernel_rfl) (by kernel_rfl) rfl (law12_awake_ok v13 h14) (by kernel_rfl) (by kernel_rfl)) ?_
          refine P_op k10 (.v (.one (.val (.bool v13)))) (by kernel_rfl) ?_
          refine P_op k10 (.v (.one (.val (.bool v13)))) (by kernel_rfl) ?_
          refine HOps_end (by kernel_rfl) ?_
          exact J_mk (v13) hm (by kernel_rfl) (by kernel_rfl)
        · replace hm := bif_f b12 hm
          refine P_skip k10 (by kernel_rfl) ?_
          refine P_op k10 (.v (.one (.val (.bool false)))) (by kernel_rfl) ?_
          refine P_op k10 (.v (.one (.val (.bool false)))) (by kernel_rfl) ?_
          refine HOps_end (by kernel_rfl) ?_
          exact J_mk (false) hm (by kernel_rfl) (by kernel_rfl)
      · replace hm := bif_f b11 hm
        refine P_skip k10 (by kernel_rfl) ?_
        refine P_skip k10 (by kernel_rfl) ?_
        refine P_skip k10 (by kernel_rfl) ?_
        refine P_op k10 (.v (.one (.val (.bool false)))) (by kernel_rfl) ?_
        refine P_op k10 (.v (.one (.val (.bool false)))) (by kernel_rfl) ?_
        refine P_skip k10 (by kernel_rfl) ?_
        refine P_op k10 (.v (.one (.val (.bool false)))) (by kernel_rfl) ?_
        refine P_op k10 (.v (.one (.val (.bool false)))) (by kernel_rfl) ?_
        refine HOps_end (by kernel_rfl) ?_
        exact J_mk (false) hm (by kernel_rfl) (by kernel_rfl)
  · replace hm := bif_f b9 hm
    refine R_skip (by kernel_rfl) ?_
    refine R_seq (nd Tryd.f9 [1, 1, 1, 0]) (nd Tryd.f9 [1, 1, 1, 1]) (by kernel_rfl) ?_
    refine R_join (ι := Bool) (nd Tryd.f9 [1, 1, 1, 0, 0]) (nd Tryd.f9 [1, 1, 1, 0, 1]) (by kernel_rfl) (fun p => law12_RingTwice_k2_S a1 a2 a3 v6 p) (fun p => law12_RingTwice_k2 a1 a2 a3 v6 p = some r) ?_ ?_
    · rintro x27 hm
      show H _ (law12_RingTwice_k2_S a1 a2 a3 v6 x27) (nd Tryd.f9 [1, 1, 1, 0, 1]) _
      refine R_cond (.tmp 69) (nd Tryd.f9 [1, 1, 1, 0, 1, 0]) (nd Tryd.f9 [1, 1, 1, 0, 1, 1]) (by kernel_rfl) x27 (by kernel_rfl) (fun b28 => ?_) (fun b28 => ?_)
      · replace hm := bif_t b28 hm
        refine R_seq (nd Tryd.f9 [1, 1, 1, 0, 1, 0, 0]) (nd Tryd.f9 [1, 1, 1, 0, 1, 0, 1]) (by kernel_rfl) ?_
        refine R_region 5 (rg Tryd.f9 [1, 1, 1, 0, 1, 0, 0]) (by kernel_rfl) ?_
        have k29 : opsOk 183 (rg Tryd.f9 [1, 1, 1, 0, 1, 0, 0]) = true := by kernel_rfl
        refine P_op k29 (.v (.one (.val (.bool false)))) (by kernel_rfl) ?_
        refine HOps_end (by kernel_rfl) ?_
        obtain rfl := Option.some.inj hm
        refine R_ret (by kernel_rfl) ?_
        exact ret_mk (by kernel_rfl) (by kernel_rfl)
      · replace hm := bif_f b28 hm
        refine R_skip (by kernel_rfl) ?_
        refine R_seq (nd Tryd.f9 [1, 1, 1, 1, 0]) (nd Tryd.f9 [1, 1, 1, 1, 1]) (by kernel_rfl) ?_
        refine R_seq (nd Tryd.f9 [1, 1, 1, 1, 0, 0]) (nd Tryd.f9 [1, 1, 1, 1, 0, 1]) (by kernel_rfl) ?_
        refine R_region 6 (rg Tryd.f9 [1, 1, 1, 1, 0, 0]) (by kernel_rfl) ?_
        have k30 : opsOk 183 (rg Tryd.f9 [1, 1, 1, 1, 0, 0]) = true := by kernel_rfl
        refine P_op k30 (.v (.one (.val (.int .i64 0)))) (by kernel_rfl) ?_
        refine HOps_end (by kernel_rfl) ?_
        obtain ⟨u48, h47, hm⟩ := bind_s hm
        refine R_loop1 (nd Tryd.f9 [1, 1, 1, 1, 0, 1, 0, 0]) 0 (by kernel_rfl) FUEL (fun o => law12_RingTwice_L3_T a1 a2 a3 v6) (fun v st => RetQ Tryd.prog Tryd.f9 (law12_RingTwice_x v) (law12_RingTwice_o v) .ret st) u48 (HL_enter (law12_RingTwice_L3_S a1 a2 a3 v6 0) (by kernel_rfl) (by kernel_rfl) (law12_RingTwice_L3_ok w A hg a1 a2 a3 v6 FUEL 0 u48 h47)) ?_ ?_
        · rintro v49 rfl st hr
          obtain rfl := Option.some.inj hm
          exact hr
        · rintro o46 rfl
          replace hm : _ = some r := hm
          refine R_seq (nd Tryd.f9 [1, 1, 1, 1, 1, 0]) (nd Tryd.f9 [1, 1, 1, 1, 1, 1]) (by kernel_rfl) ?_
          refine R_region 11 (rg Tryd.f9 [1, 1, 1, 1, 1, 0]) (by kernel_rfl) ?_
          have k50 : opsOk 183 (rg Tryd.f9 [1, 1, 1, 1, 1, 0]) = true := by kernel_rfl
          refine P_op k50 (.v (.agg [.val (.int .i64 a1.Z), tl e_Reading default a1.Read])) (by kernel_rfl) ?_
          refine P_op k50 (.v (.agg [.val (.int .i64 a1.Z), tl e_Reading default a1.Read])) (by kernel_rfl) ?_
          obtain ⟨v51, h52, hm⟩ := bind_s hm
          refine P_step k50 (obNv 5 (ring_Merge_o v51)) (obSh 5 (ring_Merge_o v51)) ((ring_Merge_x v51).sh 5) (by kernel_rfl) (Step_call (x := ring_Merge_x v51) (ob := ring_Merge_o v51) (f := 23) (args := [(.tmp 120), (.tmp 121)]) (fn := Tryd.f23) (ys := [.agg [.val (.int .i64 a1.Z), tl e_Reading default a1.Read], .agg [.val (.int .i64 a1.Z), tl e_Reading default a1.Read]]) 5 (by kernel_rfl) (by kernel_rfl) (by kernel_rfl) (by kernel_rfl) (by kernel_rfl) (by kernel_rfl) rfl (ring_Merge_ok a1 a1 v51 h52) (by kernel_rfl) (by kernel_rfl)) ?_
          refine P_op k50 (.tup [.agg [.val (.int .i64 v51.1.Z), .own 5 0 3 v51.1.Read.length], .one (.val (.int .i64 v51.2))]) (by kernel_rfl) ?_
          refine P_op k50 (.v (.agg [.val (.int .i64 v51.1.Z), .own 5 0 3 v51.1.Read.length])) (by kernel_rfl) ?_
          refine P_op k50 (.v (.one (.val (.int .i64 v51.2)))) (by kernel_rfl) ?_
          refine P_step k50 ([(6, 0)]) ([(6, (0, .box 24 [.val (.int .i64 0), .emp]))]) (.v (.one (.bptr 6 0 0))) (by kernel_rfl) (Step_alloc 24 6 0 [.val (.int .i64 0), .emp] (by kernel_rfl) (by kernel_rfl) (by kernel_rfl)) ?_
          refine P_write k50 ([(6, (0, .box 24 [.val (.int .i64 v51.1.Z), .own 5 0 3 v51.1.Read.length]))]) (.undef) (by kernel_rfl) (Step_store_box 24 (.tmp 10) (.tmp 123) 6 0 0 24 [.val (.int .i64 0), .emp] (.agg [.val (.int .i64 v51.1.Z), .own 5 0 3 v51.1.Read.length]) [.val (.int .i64 v51.1.Z), .own 5 0 3 v51.1.Read.length] (by kernel_rfl) (by kernel_rfl) (by kernel_rfl) (by kernel_rfl) (by kernel_rfl) (by kernel_rfl) (by kernel_rfl) (by kernel_rfl)) ?_
          refine P_op k50 (.v (.one (.val (.int .i64 v51.2)))) (by kernel_rfl) ?_
          refine HOps_end (by kernel_rfl) ?_
          refine R_seq (nd Tryd.f9 [1, 1, 1, 1, 1, 1, 0]) (nd Tryd.f9 [1, 1, 1, 1, 1, 1, 1]) (by kernel_rfl) ?_
          obtain ⟨v53, h54, hm⟩ := bind_s hm
          obtain ⟨v55, h56, hm⟩ := bind_s hm
          obtain ⟨v57, h58, hm⟩ := bind_s hm
          refine R_draw 12 (rg Tryd.f9 [1, 1, 1, 1, 1, 1, 0]) (by kernel_rfl) [⟨true, .v (.agg [.val (.int .i64 a1.Z), tl e_Reading default a1.Read]), [], [], [3], [1]⟩, ⟨true, .v (.one (.val (.int .i64 a3))), [], [], [2], []⟩, ⟨true, (ring_Turn_x v53).sh 7, obNv 7 (ring_Turn_o v53), obSh 7 (ring_Turn_o v53), [126, 127], []⟩, ⟨true, .v (.agg [.val (.int .i64 a2.Z), tl e_Reading default a2.Read]), [], [], [4], [2]⟩, ⟨true, .v (.one (.val (.int .i64 a3))), [], [], [2], []⟩, ⟨true, (ring_Turn_x v55).sh 8, obNv 8 (ring_Turn_o v55), obSh 8 (ring_Turn_o v55), [129, 130], []⟩, ⟨true, (ring_Merge_x v57).sh 9, obNv 9 (ring_Merge_o v57), obSh 9 (ring_Merge_o v57), [128, 131], [7, 8]⟩, ⟨true, .tup [.agg [.val (.int .i64 v57.1.Z), .own 9 0 3 v57.1.Read.length], .one (.val (.int .i64 v57.2))], [], [], [132], []⟩, ⟨true, .v (.agg [.val (.int .i64 v57.1.Z), .own 9 0 3 v57.1.Read.length]), [], [], [125], []⟩, ⟨true, .v (.one (.val (.int .i64 v57.2))), [], [], [125], []⟩, ⟨true, .v (.one (.bptr 10 0 0)), [(10, 0)], [(10, (0, .box 24 [.val (.int .i64 0), .emp]))], [], []⟩, ⟨true, .undef, [], [(10, (0, .box 24 [.val (.int .i64 v57.1.Z), .own 9 0 3 v57.1.Read.length]))], [12, 133], [10]⟩, ⟨true, .v (.one (.val (.int .i64 v57.2))), [], [], [134], []⟩] [0, 0, 3, 0, 0, 31, 63, 127, 255, 255, 0, 1535, 4095] (by kernel_rfl) (by kernel_rfl) (by kernel_rfl) (by kernel_rfl) (by kernel_rfl) (by kernel_rfl) ?_ ?_
          · refine A_pure (.v (.agg [.val (.int .i64 a1.Z), tl e_Reading default a1.Read])) [3] [1] (True) (by kernel_rfl) trivial ?_
            refine A_pure (.v (.one (.val (.int .i64 a3)))) [2] [] (True) (by kernel_rfl) trivial ?_
            refine A_run ⟨true, (ring_Turn_x v53).sh 7, obNv 7 (ring_Turn_o v53), obSh 7 (ring_Turn_o v53), [126, 127], []⟩ (by kernel_rfl) (Step_call (x := ring_Turn_x v53) (ob := ring_Turn_o v53) (f := 19) (args := [(.tmp 126), (.tmp 127)]) (fn := Tryd.f19) (ys := [.agg [.val (.int .i64 a1.Z), tl e_Reading default a1.Read], .one (.val (.int .i64 a3))]) 7 (by kernel_rfl) (by kernel_rfl) (by kernel_rfl) (by kernel_rfl) (by kernel_rfl) (by kernel_rfl) rfl (ring_Turn_ok a1 a3 v53 h54) (by kernel_rfl) (by kernel_rfl)) ?_
            refine A_pure (.v (.agg [.val (.int .i64 a2.Z), tl e_Reading default a2.Read])) [4] [2] (True) (by kernel_rfl) trivial ?_
            refine A_pure (.v (.one (.val (.int .i64 a3)))) [2] [] (True) (by kernel_rfl) trivial ?_
            refine A_run ⟨true, (ring_Turn_x v55).sh 8, obNv 8 (ring_Turn_o v55), obSh 8 (ring_Turn_o v55), [129, 130], []⟩ (by kernel_rfl) (Step_call (x := ring_Turn_x v55) (ob := ring_Turn_o v55) (f := 19) (args := [(.tmp 129), (.tmp 130)]) (fn := Tryd.f19) (ys := [.agg [.val (.int .i64 a2.Z), tl e_Reading default a2.Read], .one (.val (.int .i64 a3))]) 8 (by kernel_rfl) (by kernel_rfl) (by kernel_rfl) (by kernel_rfl) (by kernel_rfl) (by kernel_rfl) rfl (ring_Turn_ok a2 a3 v55 h56) (by kernel_rfl) (by kernel_rfl)) ?_
            refine A_run ⟨true, (ring_Merge_x v57).sh 9, obNv 9 (ring_Merge_o v57), obSh 9 (ring_Merge_o v57), [128, 131], [7, 8]⟩ (by kernel_rfl) (Step_call_own (x := ring_Merge_x v57) (ob := ring_Merge_o v57) (f := 23) (args := [(.tmp 128), (.tmp 131)]) (fn := Tryd.f23) (ys := [.agg [.val (.int .i64 v53.Z), .own 7 0 3 v53.Read.length], .agg [.val (.int .i64 v55.Z), .own 8 0 3 v55.Read.length]]) (zs := [.agg [.val (.int .i64 v53.Z), .lst v53.Read.length (rowf e_Reading default v53.Read)], .agg [.val (.int .i64 v55.Z), .lst v55.Read.length (rowf e_Reading default v55.Read)]]) (p := ((True ∧ (v53.Read.length ≤ v53.Read.length ∧ True)) ∧ ((True ∧ (v55.Read.length ≤ v55.Read.length ∧ True)) ∧ True))) 9 (by kernel_rfl) (by kernel_rfl) (by kernel_rfl) (by kernel_rfl) (by kernel_rfl) (by kernel_rfl) ⟨⟨trivial, ⟨(Nat.le_refl _), trivial⟩⟩, ⟨⟨trivial, ⟨(Nat.le_refl _), trivial⟩⟩, trivial⟩⟩ rfl (ring_Merge_ok (Ring.mk v53.Z v53.Read) (Ring.mk v55.Z v55.Read) v57 h58) (by kernel_rfl) (by kernel_rfl) (by kernel_rfl) (ring_Merge_f v57)) ?_
            refine A_pure (.tup [.agg [.val (.int .i64 v57.1.Z), .own 9 0 3 v57.1.Read.length], .one (.val (.int .i64 v57.2))]) [132] [] (True) (by kernel_rfl) trivial ?_
            refine A_pure (.v (.agg [.val (.int .i64 v57.1.Z), .own 9 0 3 v57.1.Read.length])) [125] [] (True) (by kernel_rfl) trivial ?_
            refine A_pure (.v (.one (.val (.int .i64 v57.2)))) [125] [] (True) (by kernel_rfl) trivial ?_
            refine A_run ⟨true, .v (.one (.bptr 10 0 0)), [(10, 0)], [(10, (0, .box 24 [.val (.int .i64 0), .emp]))], [], []⟩ (by kernel_rfl) (Step_alloc 24 10 0 [.val (.int .i64 0), .emp] (by kernel_rfl) (by kernel_rfl) (by kernel_rfl)) ?_
            refine A_run ⟨true, .undef, [], [(10, (0, .box 24 [.val (.int .i64 v57.1.Z), .own 9 0 3 v57.1.Read.length]))], [12, 133], [10]⟩ (by kernel_rfl) (Step_store_box 24 (.tmp 12) (.tmp 133) 10 0 0 24 [.val (.int .i64 0), .emp] (.agg [.val (.int .i64 v57.1.Z), .own 9 0 3 v57.1.Read.length]) [.val (.int .i64 v57.1.Z), .own 9 0 3 v57.1.Read.length] (by kernel_rfl) (by kernel_rfl) (by kernel_rfl) (by kernel_rfl) (by kernel_rfl) (by kernel_rfl) (by kernel_rfl) (by kernel_rfl)) ?_
            refine A_pure (.v (.one (.val (.int .i64 v57.2)))) [134] [] (True) (by kernel_rfl) trivial ?_
            exact A_end
          · refine R_seq (nd Tryd.f9 [1, 1, 1, 1, 1, 1, 1, 0]) (nd Tryd.f9 [1, 1, 1, 1, 1, 1, 1, 1]) (by kernel_rfl) ?_
            refine R_region 13 (rg Tryd.f9 [1, 1, 1, 1, 1, 1, 1, 0]) (by kernel_rfl) ?_
            have k59 : opsOk 183 (rg Tryd.f9 [1, 1, 1, 1, 1, 1, 1, 0]) = true := by kernel_rfl
            refine P_op k59 (.v (.agg [.val (.int .i64 a1.Z), tl e_Reading default a1.Read])) (by kernel_rfl) ?_
            refine P_op k59 (.v (.one (.val (.int .i64 a3)))) (by kernel_rfl) ?_
            obtain ⟨v60, h61, hm⟩ := bind_s hm
            refine P_step k59 (obNv 11 (ring_Turn_o v60)) (obSh 11 (ring_Turn_o v60)) ((ring_Turn_x v60).sh 11) (by kernel_rfl) (Step_call (x := ring_Turn_x v60) (ob := ring_Turn_o v60) (f := 19) (args := [(.tmp 135), (.tmp 136)]) (fn := Tryd.f19) (ys := [.agg [.val (.int .i64 a1.Z), tl e_Reading default a1.Read], .one (.val (.int .i64 a3))]) 11 (by kernel_rfl) (by kernel_rfl) (by kernel_rfl) (by kernel_rfl) (by kernel_rfl) (by kernel_rfl) rfl (ring_Turn_ok a1 a3 v60 h61) (by kernel_rfl) (by kernel_rfl)) ?_
            refine P_op k59 (.v (.one (.val (.int .i64 a3)))) (by kernel_rfl) ?_
            refine P_opc k59 (.v (.one (.val (.int .i64 (Int.tmod a3 4))))) (4 ≠ (0 : Int)) (by kernel_rfl) (by decide) ?_
            refine P_op k59 (.v (.one (.val (.int .i64 (w64 (3 * (Int.tmod a3 4))))))) (by kernel_rfl) ?_
            obtain ⟨v62, h63, hm⟩ := bind_s hm
            refine P_step k59 (obNv 12 (ring_Turn_o v62)) (obSh 12 (ring_Turn_o v62)) ((ring_Turn_x v62).sh 12) (by kernel_rfl) (Step_call_own (x := ring_Turn_x v62) (ob := ring_Turn_o v62) (f := 19) (args := [(.tmp 137), (.tmp 140)]) (fn := Tryd.f19) (ys := [.agg [.val (.int .i64 v60.Z), .own 11 0 3 v60.Read.length], .one (.val (.int .i64 (w64 (3 * (Int.tmod a3 4)))))]) (zs := [.agg [.val (.int .i64 v60.Z), .lst v60.Read.length (rowf e_Reading default v60.Read)], .one (.val (.int .i64 (w64 (3 * (Int.tmod a3 4)))))]) (p := ((True ∧ (v60.Read.length ≤ v60.Read.length ∧ True)) ∧ (True ∧ True))) 12 (by kernel_rfl) (by kernel_rfl) (by kernel_rfl) (by kernel_rfl) (by kernel_rfl) (by kernel_rfl) ⟨⟨trivial, ⟨(Nat.le_refl _), trivial⟩⟩, ⟨trivial, trivial⟩⟩ rfl (ring_Turn_ok (Ring.mk v60.Z v60.Read) (w64 (3 * (Int.tmod a3 4))) v62 h63) (by kernel_rfl) (by kernel_rfl) (by kernel_rfl) (ring_Turn_f v62)) ?_
            refine P_step k59 ([(13, 0)]) ([(13, (0, .box 24 [.val (.int .i64 0), .emp]))]) (.v (.one (.bptr 13 0 0))) (by kernel_rfl) (Step_alloc 24 13 0 [.val (.int .i64 0), .emp] (by kernel_rfl) (by kernel_rfl) (by kernel_rfl)) ?_
            refine P_write k59 ([(13, (0, .box 24 [.val (.int .i64 v62.Z), .own 12 0 3 v62.Read.length]))]) (.undef) (by kernel_rfl) (Step_store_box 24 (.tmp 14) (.tmp 141) 13 0 0 24 [.val (.int .i64 0), .emp] (.agg [.val (.int .i64 v62.Z), .own 12 0 3 v62.Read.length]) [.val (.int .i64 v62.Z), .own 12 0 3 v62.Read.length] (by kernel_rfl) (by kernel_rfl) (by kernel_rfl) (by kernel_rfl) (by kernel_rfl) (by kernel_rfl) (by kernel_rfl) (by kernel_rfl)) ?_
            refine HOps_end (by kernel_rfl) ?_
            refine R_seq (nd Tryd.f9 [1, 1, 1, 1, 1, 1, 1, 1, 0]) (nd Tryd.f9 [1, 1, 1, 1, 1, 1, 1, 1, 1]) (by kernel_rfl) ?_
            refine R_region 14 (rg Tryd.f9 [1, 1, 1, 1, 1, 1, 1, 1, 0]) (by kernel_rfl) ?_
            have k64 : opsOk 183 (rg Tryd.f9 [1, 1, 1, 1, 1, 1, 1, 1, 0]) = true := by kernel_rfl
            refine P_op k64 (.v (.agg [.val (.int .i64 v6.1.Z), .own 3 0 3 v6.1.Read.length])) (by kernel_rfl) ?_
            obtain ⟨v65, h66, hm⟩ := bind_s hm
            refine P_step k64 (obNv 14 (ring_Gaps_o v65)) (obSh 14 (ring_Gaps_o v65)) ((ring_Gaps_x v65).sh 14) (by kernel_rfl) (Step_call_own (x := ring_Gaps_x v65) (ob := ring_Gaps_o v65) (f := 12) (args := [(.tmp 143)]) (fn := Tryd.f12) (ys := [.agg [.val (.int .i64 v6.1.Z), .own 3 0 3 v6.1.Read.length]]) (zs := [.agg [.val (.int .i64 v6.1.Z), .lst v6.1.Read.length (rowf e_Reading default v6.1.Read)]]) (p := ((True ∧ (v6.1.Read.length ≤ v6.1.Read.length ∧ True)) ∧ True)) 14 (by kernel_rfl) (by kernel_rfl) (by kernel_rfl) (by kernel_rfl) (by kernel_rfl) (by kernel_rfl) ⟨⟨trivial, ⟨(Nat.le_refl _), trivial⟩⟩, trivial⟩ rfl (ring_Gaps_ok (Ring.mk v6.1.Z v6.1.Read) v65 h66) (by kernel_rfl) (by kernel_rfl) (by kernel_rfl) (ring_Gaps_f v65)) ?_
            refine P_op k64 (.tup [.one (.val (.int .i64 v65.1)), .one (.val (.int .i64 v65.2))]) (by kernel_rfl) ?_
            refine P_op k64 (.v (.one (.val (.int .i64 v65.1)))) (by kernel_rfl) ?_
            refine P_op k64 (.v (.one (.val (.int .i64 v65.2)))) (by kernel_rfl) ?_
            refine P_op k64 (.v (.one (.val (.int .i64 v65.1)))) (by kernel_rfl) ?_
            refine P_op k64 (.v (.one (.val (.int .i64 v65.2)))) (by kernel_rfl) ?_
            refine HOps_end (by kernel_rfl) ?_
            refine R_seq (nd Tryd.f9 [1, 1, 1, 1, 1, 1, 1, 1, 1, 0]) (nd Tryd.f9 [1, 1, 1, 1, 1, 1, 1, 1, 1, 1]) (by kernel_rfl) ?_
            refine R_region 15 (rg Tryd.f9 [1, 1, 1, 1, 1, 1, 1, 1, 1, 0]) (by kernel_rfl) ?_
            have k67 : opsOk 183 (rg Tryd.f9 [1, 1, 1, 1, 1, 1, 1, 1, 1, 0]) = true := by kernel_rfl
            refine P_op k67 (.v (.agg [.val (.int .i64 a1.Z), tl e_Reading default a1.Read])) (by kernel_rfl) ?_
            obtain ⟨v68, h69, hm⟩ := bind_s hm
            refine P_step k67 (obNv 14 (ring_Gaps_o v68)) (obSh 14 (ring_Gaps_o v68)) ((ring_Gaps_x v68).sh 14) (by kernel_rfl) (Step_call (x := ring_Gaps_x v68) (ob := ring_Gaps_o v68) (f := 12) (args := [(.tmp 148)]) (fn := Tryd.f12) (ys := [.agg [.val (.int .i64 a1.Z), tl e_Reading default a1.Read]]) 14 (by kernel_rfl) (by kernel_rfl) (by kernel_rfl) (by kernel_rfl) (by kernel_rfl) (by kernel_rfl) rfl (ring_Gaps_ok a1 v68 h69) (by kernel_rfl) (by kernel_rfl)) ?_
            refine P_op k67 (.tup [.one (.val (.int .i64 v68.1)), .one (.val (.int .i64 v68.2))]) (by kernel_rfl) ?_
            refine P_op k67 (.v (.one (.val (.int .i64 v68.1)))) (by kernel_rfl) ?_
            refine P_op k67 (.v (.one (.val (.int .i64 v68.2)))) (by kernel_rfl) ?_
            refine P_op k67 (.v (.one (.val (.int .i64 v68.1)))) (by kernel_rfl) ?_
            refine P_op k67 (.v (.one (.val (.int .i64 v68.2)))) (by kernel_rfl) ?_
            refine HOps_end (by kernel_rfl) ?_
            refine R_join (ι := Bool) (nd Tryd.f9 [1, 1, 1, 1, 1, 1, 1, 1, 1, 1, 0]) (nd Tryd.f9 [1, 1, 1, 1, 1, 1, 1, 1, 1, 1, 1]) (by kernel_rfl) (fun p => law12_RingTwice_k5_S p) (fun p => law12_RingTwice_k5 p = some r) ?_ ?_
            · rintro x86 hm
              show H _ (law12_RingTwice_k5_S x86) (nd Tryd.f9 [1, 1, 1, 1, 1, 1, 1, 1, 1, 1, 1]) _
              obtain rfl := Option.some.inj hm
              refine R_ret (by kernel_rfl) ?_
              exact ret_mk (by kernel_rfl) (by kernel_rfl)
            · rcases Bool.eq_false_or_eq_true (v51.2 == 0) with b70 | b70
              · replace hm := bif_t b70 hm
                obtain ⟨v71, h72, hm⟩ := bind_s hm
                rcases Bool.eq_false_or_eq_true v71 with b73 | b73
                · replace hm := bif_t b73 hm
                  rcases Bool.eq_false_or_eq_true (v57.2 == 0) with b74 | b74
                  · replace hm := bif_t b74 hm
                    obtain ⟨v75, h76, hm⟩ := bind_s hm
                    obtain ⟨v77, h78, hm⟩ := bind_s hm
                    rcases Bool.eq_false_or_eq_true v77 with b79 | b79
                    · replace hm := bif_t b79 hm
                      obtain ⟨v80, h81, hm⟩ := bind_s hm
                      rcases Bool.eq_false_or_eq_true v80 with b82 | b82
                      · replace hm := bif_t b82 hm
                        rcases Bool.eq_false_or_eq_true (decide (v65.1 ≤ v68.1)) with b83 | b83
                        · replace hm := bif_t b83 hm
                          obtain ⟨v84, h85, hm⟩ := bind_s hm
                          refine R_draw 16 (rg Tryd.f9 [1, 1, 1, 1, 1, 1, 1, 1, 1, 1, 0]) (by kernel_rfl) [⟨true, .v (.one (.val (.int .i64 v51.2))), [], [], [11], []⟩, ⟨true, .v (.one (.val (.bool (v51.2 == 0)))), [], [], [152], []⟩, ⟨true, boolV true, [], [], [153], []⟩, ⟨true, .v (.agg [.val (.int .i64 v51.1.Z), .own 5 0 3 v51.1.Read.length]), [], [], [10, 154], [6]⟩, ⟨true, .v (.agg [.val (.int .i64 a1.Z), tl e_Reading default a1.Read]), [], [], [3, 154], [1]⟩, ⟨true, (ref12_Same_x v71).sh 14, obNv 14 (ref12_Same_o v71), obSh 14 (ref12_Same_o v71), [154, 155, 156], [5]⟩, ⟨true, .v (.one (.val (.bool v71))), [], [], [154, 157], []⟩, ⟨true, boolV true, [], [], [158], []⟩, ⟨true, .v (.one (.val (.int .i64 v57.2))), [], [], [13, 159], []⟩, ⟨true, .v (.one (.val (.bool (v57.2 == 0)))), [], [], [159, 160], []⟩, ⟨true, .v (.one (.val (.bool (v57.2 == 0)))), [], [], [159, 161], []⟩, ⟨true, boolV true, [], [], [162], []⟩, ⟨true, .v (.agg [.val (.int .i64 v57.1.Z), .own 9 0 3 v57.1.Read.length]), [], [], [12, 163], [10]⟩, ⟨true, .v (.agg [.val (.int .i64 v6.1.Z), .own 3 0 3 v6.1.Read.length]), [], [], [7, 163], [4]⟩, ⟨true, .v (.one (.val (.int .i64 a3))), [], [], [2, 163], []⟩, ⟨true, (ring_Turn_x v75).sh 14, obNv 14 (ring_Turn_o v75), obSh 14 (ring_Turn_o v75), [163, 165, 166], [3]⟩, ⟨true, (ref12_Same_x v77).sh 15, obNv 15 (ref12_Same_o v77), obSh 15 (ref12_Same_o v77), [163, 164, 167], [9, 14]⟩, ⟨true, .v (.one (.val (.bool v77))), [], [], [163, 168], []⟩, ⟨true, boolV true, [], [], [169], []⟩, ⟨true, .v (.agg [.val (.int .i64 v62.Z), .own 12 0 3 v62.Read.length]), [], [], [14, 170], [13]⟩, ⟨true, .v (.agg [.val (.int .i64 a1.Z), tl e_Reading default a1.Read]), [], [], [3, 170], [1]⟩, ⟨true, (ref12_Same_x v80).sh 15, obNv 15 (ref12_Same_o v80), obSh 15 (ref12_Same_o v80), [170, 171, 172], [12]⟩, ⟨true, .v (.one (.val (.bool v80))), [], [], [170, 173], []⟩, ⟨true, boolV true, [], [], [174], []⟩, ⟨true, .v (.one (.val (.int .i64 v65.1))), [], [], [15, 175], []⟩, ⟨true, .v (.one (.val (.int .i64 v68.1))), [], [], [17, 175], []⟩, ⟨true, .v (.one (.val (.bool (decide (v65.1 ≤ v68.1))))), [], [], [175, 176, 177], []⟩, ⟨true, .v (.one (.val (.bool (decide (v65.1 ≤ v68.1))))), [], [], [175, 178], []⟩, ⟨true, boolV true, [], [], [179], []⟩, ⟨true, (law12_awake_x v84).sh 15, obNv 15 (law12_awake_o v84), obSh 15 (law12_awake_o v84), [180], []⟩, ⟨true, .v (.one (.val (.bool v84))), [], [], [180, 181], []⟩, ⟨true, .v (.one (.val (.bool v84))), [], [], [182], []⟩] [0, 1, 3, 7, 7, 31, 63, 127, 255, 511, 1023, 2047, 4095, 4095, 4095, 28671, 65535, 131071, 262143, 524287, 524287, 2097151, 4194303, 8388607, 16777215, 16777215, 67108863, 134217727, 268435455, 536870911, 1073741823, 2147483647] (by kernel_rfl) (by kernel_rfl) (by kernel_rfl) (by kernel_rfl) (by kernel_rfl) (by kernel_rfl) ?_ ?_
                          · refine A_pure (.v (.one (.val (.int .i64 v51.2)))) [11] [] (True) (by kernel_rfl) trivial ?_
                            refine A_pure (.v (.one (.val (.bool (v51.2 == 0))))) [152] [] (True) (by kernel_rfl) trivial ?_
                            refine A_pureE (boolV true) (boolV (v51.2 == 0)) (congrArg boolV b70) [153] [] (True) (by kernel_rfl) trivial ?_
                            refine A_pure (.v (.agg [.val (.int .i64 v51.1.Z), .own 5 0 3 v51.1.Read.length])) [10, 154] [6] (True) (by kernel_rfl) trivial ?_
                            refine A_pure (.v (.agg [.val (.int .i64 a1.Z), tl e_Reading default a1.Read])) [3, 154] [1] (True) (by kernel_rfl) trivial ?_
                            refine A_run ⟨true, (ref12_Same_x v71).sh 14, obNv 14 (ref12_Same_o v71), obSh 14 (ref12_Same_o v71), [154, 155, 156], [5]⟩ (by kernel_rfl) (Step_call_own (x := ref12_Same_x v71) (ob := ref12_Same_o v71) (f := 16) (args := [(.tmp 155), (.tmp 156)]) (fn := Tryd.f16) (ys := [.agg [.val (.int .i64 v51.1.Z), .own 5 0 3 v51.1.Read.length], .agg [.val (.int .i64 a1.Z), tl e_Reading default a1.Read]]) (zs := [.agg [.val (.int .i64 v51.1.Z), .lst v51.1.Read.length (rowf e_Reading default v51.1.Read)], .agg [.val (.int .i64 a1.Z), tl e_Reading default a1.Read]]) (p := ((True ∧ (v51.1.Read.length ≤ v51.1.Read.length ∧ True)) ∧ ((True ∧ (True ∧ True)) ∧ True))) 14 (by kernel_rfl) (by kernel_rfl) (by kernel_rfl) (by kernel_rfl) (by kernel_rfl) (by kernel_rfl) ⟨⟨trivial, ⟨(Nat.le_refl _), trivial⟩⟩, ⟨⟨trivial, ⟨trivial, trivial⟩⟩, trivial⟩⟩ rfl (ref12_Same_ok (Ring.mk v51.1.Z v51.1.Read) a1 v71 h72) (by kernel_rfl) (by kernel_rfl) (by kernel_rfl) (ref12_Same_f v71)) ?_
                            refine A_pure (.v (.one (.val (.bool v71)))) [154, 157] [] (True) (by kernel_rfl) trivial ?_
                            refine A_pureE (boolV true) (boolV v71) (congrArg boolV b73) [158] [] (True) (by kernel_rfl) trivial ?_
                            refine A_pure (.v (.one (.val (.int .i64 v57.2)))) [13, 159] [] (True) (by kernel_rfl) trivial ?_
                            refine A_pure (.v (.one (.val (.bool (v57.2 == 0))))) [159, 160] [] (True) (by kernel_rfl) trivial ?_
                            refine A_pure (.v (.one (.val (.bool (v57.2 == 0))))) [159, 161] [] (True) (by kernel_rfl) trivial ?_
                            refine A_pureE (boolV true) (boolV (v57.2 == 0)) (congrArg boolV b74) [162] [] (True) (by kernel_rfl) trivial ?_
                            refine A_pure (.v (.agg [.val (.int .i64 v57.1.Z), .own 9 0 3 v57.1.Read.length])) [12, 163] [10] (True) (by kernel_rfl) trivial ?_
                            refine A_pure (.v (.agg [.val (.int .i64 v6.1.Z), .own 3 0 3 v6.1.Read.length])) [7, 163] [4] (True) (by kernel_rfl) trivial ?_
                            refine A_pure (.v (.one (.val (.int .i64 a3)))) [2, 163] [] (True) (by kernel_rfl) trivial ?_
                            refine A_run ⟨true, (ring_Turn_x v75).sh 14, obNv 14 (ring_Turn_o v75), obSh 14 (ring_Turn_o v75), [163, 165, 166], [3]⟩ (by kernel_rfl) (Step_call_own (x := ring_Turn_x v75) (ob := ring_Turn_o v75) (f := 19) (args := [(.tmp 165), (.tmp 166)]) (fn := Tryd.f19) (ys := [.agg [.val (.int .i64 v6.1.Z), .own 3 0 3 v6.1.Read.length], .one (.val (.int .i64 a3))]) (zs := [.agg [.val (.int .i64 v6.1.Z), .lst v6.1.Read.length (rowf e_Reading default v6.1.Read)], .one (.val (.int .i64 a3))]) (p := ((True ∧ (v6.1.Read.length ≤ v6.1.Read.length ∧ True)) ∧ (True ∧ True))) 14 (by kernel_rfl) (by kernel_rfl) (by kernel_rfl) (by kernel_rfl) (by kernel_rfl) (by kernel_rfl) ⟨⟨trivial, ⟨(Nat.le_refl _), trivial⟩⟩, ⟨trivial, trivial⟩⟩ rfl (ring_Turn_ok (Ring.mk v6.1.Z v6.1.Read) a3 v75 h76) (by kernel_rfl) (by kernel_rfl) (by kernel_rfl) (ring_Turn_f v75)) ?_
                            refine A_run ⟨true, (ref12_Same_x v77).sh 15, obNv 15 (ref12_Same_o v77), obSh 15 (ref12_Same_o v77), [163, 164, 167], [9, 14]⟩ (by kernel_rfl) (Step_call_own (x := ref12_Same_x v77) (ob := ref12_Same_o v77) (f := 16) (args := [(.tmp 164), (.tmp 167)]) (fn := Tryd.f16) (ys := [.agg [.val (.int .i64 v57.1.Z), .own 9 0 3 v57.1.Read.length], .agg [.val (.int .i64 v75.Z), .own 14 0 3 v75.Read.length]]) (zs := [.agg [.val (.int .i64 v57.1.Z), .lst v57.1.Read.length (rowf e_Reading default v57.1.Read)], .agg [.val (.int .i64 v75.Z), .lst v75.Read.length (rowf e_Reading default v75.Read)]]) (p := ((True ∧ (v57.1.Read.length ≤ v57.1.Read.length ∧ True)) ∧ ((True ∧ (v75.Read.length ≤ v75.Read.length ∧ True)) ∧ True))) 15 (by kernel_rfl) (by kernel_rfl) (by kernel_rfl) (by kernel_rfl) (by kernel_rfl) (by kernel_rfl) ⟨⟨trivial, ⟨(Nat.le_refl _), trivial⟩⟩, ⟨⟨trivial, ⟨(Nat.le_refl _), trivial⟩⟩, trivial⟩⟩ rfl (ref12_Same_ok (Ring.mk v57.1.Z v57.1.Read) (Ring.mk v75.Z v75.Read) v77 h78) (by kernel_rfl) (by kernel_rfl) (by kernel_rfl) (ref12_Same_f v77)) ?_
                            refine A_pure (.v (.one (.val (.bool v77)))) [163, 168] [] (True) (by kernel_rfl) trivial ?_
                            refine A_pureE (boolV true) (boolV v77) (congrArg boolV b79) [169] [] (True) (by kernel_rfl) trivial ?_
                            refine A_pure (.v (.agg [.val (.int .i64 v62.Z), .own 12 0 3 v62.Read.length])) [14, 170] [13] (True) (by kernel_rfl) trivial ?_
                            refine A_pure (.v (.agg [.val (.int .i64 a1.Z), tl e_Reading default a1.Read])) [3, 170] [1] (True) (by kernel_rfl) trivial ?_
                            refine A_run ⟨true, (ref12_Same_x v80).sh 15, obNv 15 (ref12_Same_o v80), obSh 15 (ref12_Same_o v80), [170, 171, 172], [12]⟩ (by kernel_rfl) (Step_call_own (x := ref12_Same_x v80) (ob := ref12_Same_o v80) (f := 16) (args := [(.tmp 171), (.tmp 172)]) (fn := Tryd.f16) (ys := [.agg [.val (.int .i64 v62.Z), .own 12 0 3 v62.Read.length], .agg [.val (.int .i64 a1.Z), tl e_Reading default a1.Read]]) (zs := [.agg [.val (.int .i64 v62.Z), .lst v62.Read.length (rowf e_Reading default v62.Read)], .agg [.val (.int .i64 a1.Z), tl e_Reading default a1.Read]]) (p := ((True ∧ (v62.Read.length ≤ v62.Read.length ∧ True)) ∧ ((True ∧ (True ∧ True)) ∧ True))) 15 (by kernel_rfl) (by kernel_rfl) (by kernel_rfl) (by kernel_rfl) (by kernel_rfl) (by kernel_rfl) ⟨⟨trivial, ⟨(Nat.le_refl _), trivial⟩⟩, ⟨⟨trivial, ⟨trivial, trivial⟩⟩, trivial⟩⟩ rfl (ref12_Same_ok (Ring.mk v62.Z v62.Read) a1 v80 h81) (by kernel_rfl) (by kernel_rfl) (by kernel_rfl) (ref12_Same_f v80)) ?_
                            refine A_pure (.v (.one (.val (.bool v80)))) [170, 173] [] (True) (by kernel_rfl) trivial ?_
                            refine A_pureE (boolV true) (boolV v80) (congrArg boolV b82) [174] [] (True) (by kernel_rfl) trivial ?_
                            refine A_pure (.v (.one (.val (.int .i64 v65.1)))) [15, 175] [] (True) (by kernel_rfl) trivial ?_
                            refine A_pure (.v (.one (.val (.int .i64 v68.1)))) [17, 175] [] (True) (by kernel_rfl) trivial ?_
                            refine A_pure (.v (.one (.val (.bool (decide (v65.1 ≤ v68.1)))))) [175, 176, 177] [] (True) (by kernel_rfl) trivial ?_
                            refine A_pure (.v (.one (.val (.bool (decide (v65.1 ≤ v68.1)))))) [175, 178] [] (True) (by kernel_rfl) trivial ?_
                            refine A_pureE (boolV true) (boolV (decide (v65.1 ≤ v68.1))) (congrArg boolV b83) [179] [] (True) (by kernel_rfl) trivial ?_
                            refine A_run ⟨true, (law12_awake_x v84).sh 15, obNv 15 (law12_awake_o v84), obSh 15 (law12_awake_o v84), [180], []⟩ (by kernel_rfl) (Step_call (x := law12_awake_x v84) (ob := law12_awake_o v84) (f := 11) (args := []) (fn := Tryd.f11) (ys := []) 15 (by kernel_rfl) (by kernel_rfl) (by kernel_rfl) (by kernel_rfl) (by kernel_rfl) (by kernel_rfl) rfl (law12_awake_ok v84 h85) (by kernel_rfl) (by kernel_rfl)) ?_
                            refine A_pure (.v (.one (.val (.bool v84)))) [180, 181] [] (True) (by kernel_rfl) trivial ?_
                            refine A_pure (.v (.one (.val (.bool v84)))) [182] [] (True) (by kernel_rfl) trivial ?_
                            exact A_end
                          · exact J_mk (v84) hm (by kernel_rfl) (by kernel_rfl)
                        · replace hm := bif_f b83 hm
                          refine R_draw 16 (rg Tryd.f9 [1, 1, 1, 1, 1, 1, 1, 1, 1, 1, 0]) (by kernel_rfl) [⟨true, .v (.one (.val (.int .i64 v51.2))), [], [], [11], []⟩, ⟨true, .v (.one (.val (.bool (v51.2 == 0)))), [], [], [152], []⟩, ⟨true, boolV true, [], [], [153], []⟩, ⟨true, .v (.agg [.val (.int .i64 v51.1.Z), .own 5 0 3 v51.1.Read.length]), [], [], [10, 154], [6]⟩, ⟨true, .v (.agg [.val (.int .i64 a1.Z), tl e_Reading default a1.Read]), [], [], [3, 154], [1]⟩, ⟨true, (ref12_Same_x v71).sh 14, obNv 14 (ref12_Same_o v71), obSh 14 (ref12_Same_o v71), [154, 155, 156], [5]⟩, ⟨true, .v (.one (.val (.bool v71))), [], [], [154, 157], []⟩, ⟨true, boolV true, [], [], [158], []⟩, ⟨true, .v (.one (.val (.int .i64 v57.2))), [], [], [13, 159], []⟩, ⟨true, .v (.one (.val (.bool (v57.2 == 0)))), [], [], [159, 160], []⟩, ⟨true, .v (.one (.val (.bool (v57.2 == 0)))), [], [], [159, 161], []⟩, ⟨true, boolV true, [], [], [162], []⟩, ⟨true, .v (.agg [.val (.int .i64 v57.1.Z), .own 9 0 3 v57.1.Read.length]), [], [], [12, 163], [10]⟩, ⟨true, .v (.agg [.val (.int .i64 v6.1.Z), .own 3 0 3 v6.1.Read.length]), [], [], [7, 163], [4]⟩, ⟨true, .v (.one (.val (.int .i64 a3))), [], [], [2, 163], []⟩, ⟨true, (ring_Turn_x v75).sh 14, obNv 14 (ring_Turn_o v75), obSh 14 (ring_Turn_o v75), [163, 165, 166], [3]⟩, ⟨true, (ref12_Same_x v77).sh 15, obNv 15 (ref12_Same_o v77), obSh 15 (ref12_Same_o v77), [163, 164, 167], [9, 14]⟩, ⟨true, .v (.one (.val (.bool v77))), [], [], [163, 168], []⟩, ⟨true, boolV true, [], [], [169], []⟩, ⟨true, .v (.agg [.val (.int .i64 v62.Z), .own 12 0 3 v62.Read.length]), [], [], [14, 170], [13]⟩, ⟨true, .v (.agg [.val (.int .i64 a1.Z), tl e_Reading default a1.Read]), [], [], [3, 170], [1]⟩, ⟨true, (ref12_Same_x v80).sh 15, obNv 15 (ref12_Same_o v80), obSh 15 (ref12_Same_o v80), [170, 171, 172], [12]⟩, ⟨true, .v (.one (.val (.bool v80))), [], [], [170, 173], []⟩, ⟨true, boolV true, [], [], [174], []⟩, ⟨true, .v (.one (.val (.int .i64 v65.1))), [], [], [15, 175], []⟩, ⟨true, .v (.one (.val (.int .i64 v68.1))), [], [], [17, 175], []⟩, ⟨true, .v (.one (.val (.bool (decide (v65.1 ≤ v68.1))))), [], [], [175, 176, 177], []⟩, ⟨true, .v (.one (.val (.bool (decide (v65.1 ≤ v68.1))))), [], [], [175, 178], []⟩, ⟨true, boolV false, [], [], [179], []⟩, ⟨false, .undef, [], [], [180], []⟩, ⟨true, .v (.one (.val (.bool false))), [], [], [180, 181], []⟩, ⟨true, .v (.one (.val (.bool false))), [], [], [182], []⟩] [0, 1, 3, 7, 7, 31, 63, 127, 255, 511, 1023, 2047, 4095, 4095, 4095, 28671, 65535, 131071, 262143, 524287, 524287, 2097151, 4194303, 8388607, 16777215, 16777215, 67108863, 134217727, 268435455, 536870911, 1073741823, 2147483647] (by kernel_rfl) (by kernel_rfl) (by kernel_rfl) (by kernel_rfl) (by kernel_rfl) (by kernel_rfl) ?_ ?_
                          · refine A_pure (.v (.one (.val (.int .i64 v51.2)))) [11] [] (True) (by kernel_rfl) trivial ?_
                            refine A_pure (.v (.one (.val (.bool (v51.2 == 0))))) [152] [] (True) (by kernel_rfl) trivial ?_
                            refine A_pureE (boolV true) (boolV (v51.2 == 0)) (congrArg boolV b70) [153] [] (True) (by kernel_rfl) trivial ?_
                            refine A_pure (.v (.agg [.val (.int .i64 v51.1.Z), .own 5 0 3 v51.1.Read.length])) [10, 154] [6] (True) (by kernel_rfl) trivial ?_
                            refine A_pure (.v (.agg [.val (.int .i64 a1.Z), tl e_Reading default a1.Read])) [3, 154] [1] (True) (by kernel_rfl) trivial ?_
                            refine A_run ⟨true, (ref12_Same_x v71).sh 14, obNv 14 (ref12_Same_o v71), obSh 14 (ref12_Same_o v71), [154, 155, 156], [5]⟩ (by kernel_rfl) (Step_call_own (x := ref12_Same_x v71) (ob := ref12_Same_o v71) (f := 16) (args := [(.tmp 155), (.tmp 156)]) (fn := Tryd.f16) (ys := [.agg [.val (.int .i64 v51.1.Z), .own 5 0 3 v51.1.Read.length], .agg [.val (.int .i64 a1.Z), tl e_Reading default a1.Read]]) (zs := [.agg [.val (.int .i64 v51.1.Z), .lst v51.1.Read.length (rowf e_Reading default v51.1.Read)], .agg [.val (.int .i64 a1.Z), tl e_Reading default a1.Read]]) (p := ((True ∧ (v51.1.Read.length ≤ v51.1.Read.length ∧ True)) ∧ ((True ∧ (True ∧ True)) ∧ True))) 14 (by kernel_rfl) (by kernel_rfl) (by kernel_rfl) (by kernel_rfl) (by kernel_rfl) (by kernel_rfl) ⟨⟨trivial, ⟨(Nat.le_refl _), trivial⟩⟩, ⟨⟨trivial, ⟨trivial, trivial⟩⟩, trivial⟩⟩ rfl (ref12_Same_ok (Ring.mk v51.1.Z v51.1.Read) a1 v71 h72) (by kernel_rfl) (by kernel_rfl) (by kernel_rfl) (ref12_Same_f v71)) ?_
                            refine A_pure (.v (.one (.val (.bool v71)))) [154, 157] [] (True) (by kernel_rfl) trivial ?_
                            refine A_pureE (boolV true) (boolV v71) (congrArg boolV b73) [158] [] (True) (by kernel_rfl) trivial ?_
                            refine A_pure (.v (.one (.val (.int .i64 v57.2)))) [13, 159] [] (True) (by kernel_rfl) trivial ?_
                            refine A_pure (.v (.one (.val (.bool (v57.2 == 0))))) [159, 160] [] (True) (by kernel_rfl) trivial ?_
                            refine A_pure (.v (.one (.val (.bool (v57.2 == 0))))) [159, 161] [] (True) (by kernel_rfl) trivial ?_
                            refine A_pureE (boolV true) (boolV (v57.2 == 0)) (congrArg boolV b74) [162] [] (True) (by kernel_rfl) trivial ?_
                            refine A_pure (.v (.agg [.val (.int .i64 v57.1.Z), .own 9 0 3 v57.1.Read.length])) [12, 163] [10] (True) (by kernel_rfl) trivial ?_
                            refine A_pure (.v (.agg [.val (.int .i64 v6.1.Z), .own 3 0 3 v6.1.Read.length])) [7, 163] [4] (True) (by kernel_rfl) trivial ?_
                            refine A_pure (.v (.one (.val (.int .i64 a3)))) [2, 163] [] (True) (by kernel_rfl) trivial ?_
                            refine A_run ⟨true, (ring_Turn_x v75).sh 14, obNv 14 (ring_Turn_o v75), obSh 14 (ring_Turn_o v75), [163, 165, 166], [3]⟩ (by kernel_rfl) (Step_call_own (x := ring_Turn_x v75) (ob := ring_Turn_o v75) (f := 19) (args := [(.tmp 165), (.tmp 166)]) (fn := Tryd.f19) (ys := [.agg [.val (.int .i64 v6.1.Z), .own 3 0 3 v6.1.Read.length], .one (.val (.int .i64 a3))]) (zs := [.agg [.val (.int .i64 v6.1.Z), .lst v6.1.Read.length (rowf e_Reading default v6.1.Read)], .one (.val (.int .i64 a3))]) (p := ((True ∧ (v6.1.Read.length ≤ v6.1.Read.length ∧ True)) ∧ (True ∧ True))) 14 (by kernel_rfl) (by kernel_rfl) (by kernel_rfl) (by kernel_rfl) (by kernel_rfl) (by kernel_rfl) ⟨⟨trivial, ⟨(Nat.le_refl _), trivial⟩⟩, ⟨trivial, trivial⟩⟩ rfl (ring_Turn_ok (Ring.mk v6.1.Z v6.1.Read) a3 v75 h76) (by kernel_rfl) (by kernel_rfl) (by kernel_rfl) (ring_Turn_f v75)) ?_
                            refine A_run ⟨true, (ref12_Same_x v77).sh 15, obNv 15 (ref12_Same_o v77), obSh 15 (ref12_Same_o v77), [163, 164, 167], [9, 14]⟩ (by kernel_rfl) (Step_call_own (x := ref12_Same_x v77) (ob := ref12_Same_o v77) (f := 16) (args := [(.tmp 164), (.tmp 167)]) (fn := Tryd.f16) (ys := [.agg [.val (.int .i64 v57.1.Z), .own 9 0 3 v57.1.Read.length], .agg [.val (.int .i64 v75.Z), .own 14 0 3 v75.Read.length]]) (zs := [.agg [.val (.int .i64 v57.1.Z), .lst v57.1.Read.length (rowf e_Reading default v57.1.Read)], .agg [.val (.int .i64 v75.Z), .lst v75.Read.length (rowf e_Reading default v75.Read)]]) (p := ((True ∧ (v57.1.Read.length ≤ v57.1.Read.length ∧ True)) ∧ ((True ∧ (v75.Read.length ≤ v75.Read.length ∧ True)) ∧ True))) 15 (by kernel_rfl) (by kernel_rfl) (by kernel_rfl) (by kernel_rfl) (by kernel_rfl) (by kernel_rfl) ⟨⟨trivial, ⟨(Nat.le_refl _), trivial⟩⟩, ⟨⟨trivial, ⟨(Nat.le_refl _), trivial⟩⟩, trivial⟩⟩ rfl (ref12_Same_ok (Ring.mk v57.1.Z v57.1.Read) (Ring.mk v75.Z v75.Read) v77 h78) (by kernel_rfl) (by kernel_rfl) (by kernel_rfl) (ref12_Same_f v77)) ?_
                            refine A_pure (.v (.one (.val (.bool v77)))) [163, 168] [] (True) (by kernel_rfl) trivial ?_
                            refine A_pureE (boolV true) (boolV v77) (congrArg boolV b79) [169] [] (True) (by kernel_rfl) trivial ?_
                            refine A_pure (.v (.agg [.val (.int .i64 v62.Z), .own 12 0 3 v62.Read.length])) [14, 170] [13] (True) (by kernel_rfl) trivial ?_
                            refine A_pure (.v (.agg [.val (.int .i64 a1.Z), tl e_Reading default a1.Read])) [3, 170] [1] (True) (by kernel_rfl) trivial ?_
                            refine A_run ⟨true, (ref12_Same_x v80).sh 15, obNv 15 (ref12_Same_o v80), obSh 15 (ref12_Same_o v80), [170, 171, 172], [12]⟩ (by kernel_rfl) (Step_call_own (x := ref12_Same_x v80) (ob := ref12_Same_o v80) (f := 16) (args := [(.tmp 171), (.tmp 172)]) (fn := Tryd.f16) (ys := [.agg [.val (.int .i64 v62.Z), .own 12 0 3 v62.Read.length], .agg [.val (.int .i64 a1.Z), tl e_Reading default a1.Read]]) (zs := [.agg [.val (.int .i64 v62.Z), .lst v62.Read.length (rowf e_Reading default v62.Read)], .agg [.val (.int .i64 a1.Z), tl e_Reading default a1.Read]]) (p := ((True ∧ (v62.Read.length ≤ v62.Read.length ∧ True)) ∧ ((True ∧ (True ∧ True)) ∧ True))) 15 (by kernel_rfl) (by kernel_rfl) (by kernel_rfl) (by kernel_rfl) (by kernel_rfl) (by kernel_rfl) ⟨⟨trivial, ⟨(Nat.le_refl _), trivial⟩⟩, ⟨⟨trivial, ⟨trivial, trivial⟩⟩, trivial⟩⟩ rfl (ref12_Same_ok (Ring.mk v62.Z v62.Read) a1 v80 h81) (by kernel_rfl) (by kernel_rfl) (by kernel_rfl) (ref12_Same_f v80)) ?_
                            refine A_pure (.v (.one (.val (.bool v80)))) [170, 173] [] (True) (by kernel_rfl) trivial ?_
                            refine A_pureE (boolV true) (boolV v80) (congrArg boolV b82) [174] [] (True) (by kernel_rfl) trivial ?_
                            refine A_pure (.v (.one (.val (.int .i64 v65.1)))) [15, 175] [] (True) (by kernel_rfl) trivial ?_
                            refine A_pure (.v (.one (.val (.int .i64 v68.1)))) [17, 175] [] (True) (by kernel_rfl) trivial ?_
                            refine A_pure (.v (.one (.val (.bool (decide (v65.1 ≤ v68.1)))))) [175, 176, 177] [] (True) (by kernel_rfl) trivial ?_
                            refine A_pure (.v (.one (.val (.bool (decide (v65.1 ≤ v68.1)))))) [175, 178] [] (True) (by kernel_rfl) trivial ?_
                            refine A_pureE (boolV false) (boolV (decide (v65.1 ≤ v68.1))) (congrArg boolV b83) [179] [] (True) (by kernel_rfl) trivial ?_
                            refine A_skip [180] (by kernel_rfl) ?_
                            refine A_pure (.v (.one (.val (.bool false)))) [180, 181] [] (True) (by kernel_rfl) trivial ?_
                            refine A_pure (.v (.one (.val (.bool false)))) [182] [] (True) (by kernel_rfl) trivial ?_
                            exact A_end
                          · exact J_mk (false) hm (by kernel_rfl) (by kernel_rfl)
                      · replace hm := bif_f b82 hm
                        refine R_draw 16 (rg Tryd.f9 [1, 1, 1, 1, 1, 1, 1, 1, 1, 1, 0]) (by kernel_rfl) [⟨true, .v (.one (.val (.int .i64 v51.2))), [], [], [11], []⟩, ⟨true, .v (.one (.val (.bool (v51.2 == 0)))), [], [], [152], []⟩, ⟨true, boolV true, [], [], [153], []⟩, ⟨true, .v (.agg [.val (.int .i64 v51.1.Z), .own 5 0 3 v51.1.Read.length]), [], [], [10, 154], [6]⟩, ⟨true, .v (.agg [.val (.int .i64 a1.Z), tl e_Reading default a1.Read]), [], [], [3, 154], [1]⟩, ⟨true, (ref12_Same_x v71).sh 14, obNv 14 (ref12_Same_o v71), obSh 14 (ref12_Same_o v71), [154, 155, 156], [5]⟩, ⟨true, .v (.one (.val (.bool v71))), [], [], [154, 157], []⟩, ⟨true, boolV true, [], [], [158], []⟩, ⟨true, .v (.one (.val (.int .i64 v57.2))), [], [], [13, 159], []⟩, ⟨true, .v (.one (.val (.bool (v57.2 == 0)))), [], [], [159, 160], []⟩, ⟨true, .v (.one (.val (.bool (v57.2 == 0)))), [], [], [159, 161], []⟩, ⟨true, boolV true, [], [], [162], []⟩, ⟨true, .v (.agg [.val (.int .i64 v57.1.Z), .own 9 0 3 v57.1.Read.length]), [], [], [12, 163], [10]⟩, ⟨true, .v (.agg [.val (.int .i64 v6.1.Z), .own 3 0 3 v6.1.Read.length]), [], [], [7, 163], [4]⟩, ⟨true, .v (.one (.val (.int .i64 a3))), [], [], [2, 163], []⟩, ⟨true, (ring_Turn_x v75).sh 14, obNv 14 (ring_Turn_o v75), obSh 14 (ring_Turn_o v75), [163, 165, 166], [3]⟩, ⟨true, (ref12_Same_x v77).sh 15, obNv 15 (ref12_Same_o v77), obSh 15 (ref12_Same_o v77), [163, 164, 167], [9, 14]⟩, ⟨true, .v (.one (.val (.bool v77))), [], [], [163, 168], []⟩, ⟨true, boolV true, [], [], [169], []⟩, ⟨true, .v (.agg [.val (.int .i64 v62.Z), .own 12 0 3 v62.Read.length]), [], [], [14, 170], [13]⟩, ⟨true, .v (.agg [.val (.int .i64 a1.Z), tl e_Reading default a1.Read]), [], [], [3, 170], [1]⟩, ⟨true, (ref12_Same_x v80).sh 15, obNv 15 (ref12_Same_o v80), obSh 15 (ref12_Same_o v80), [170, 171, 172], [12]⟩, ⟨true, .v (.one (.val (.bool v80))), [], [], [170, 173], []⟩, ⟨true, boolV false, [], [], [174], []⟩, ⟨false, .undef, [], [], [175], []⟩, ⟨false, .undef, [], [], [175], []⟩, ⟨false, .undef, [], [], [175], []⟩, ⟨true, .v (.one (.val (.bool false))), [], [], [175, 178], []⟩, ⟨true, .v (.one (.val (.bool false))), [], [], [179], []⟩, ⟨false, .undef, [], [], [180], []⟩, ⟨true, .v (.one (.val (.bool false))), [], [], [180, 181], []⟩, ⟨true, .v (.one (.val (.bool false))), [], [], [182], []⟩] [0, 1, 3, 7, 7, 31, 63, 127, 255, 511, 1023, 2047, 4095, 4095, 4095, 28671, 65535, 131071, 262143, 524287, 524287, 2097151, 4194303, 8388607, 16777215, 16777215, 67108863, 134217727, 268435455, 536870911, 1073741823, 2147483647] (by kernel_rfl) (by kernel_rfl) (by kernel_rfl) (by kernel_rfl) (by kernel_rfl) (by kernel_rfl) ?_ ?_
                        · refine A_pure (.v (.one (.val (.int .i64 v51.2)))) [11] [] (True) (by kernel_rfl) trivial ?_
                          refine A_pure (.v (.one (.val (.bool (v51.2 == 0))))) [152] [] (True) (by kernel_rfl) trivial ?_
                          refine A_pureE (boolV true) (boolV (v51.2 == 0)) (congrArg boolV b70) [153] [] (True) (by kernel_rfl) trivial ?_
                          refine A_pure (.v (.agg [.val (.int .i64 v51.1.Z), .own 5 0 3 v51.1.Read.length])) [10, 154] [6] (True) (by kernel_rfl) trivial ?_
                          refine A_pure (.v (.agg [.val (.int .i64 a1.Z), tl e_Reading default a1.Read])) [3, 154] [1] (True) (by kernel_rfl) trivial ?_
                          refine A_run ⟨true, (ref12_Same_x v71).sh 14, obNv 14 (ref12_Same_o v71), obSh 14 (ref12_Same_o v71), [154, 155, 156], [5]⟩ (by kernel_rfl) (Step_call_own (x := ref12_Same_x v71) (ob := ref12_Same_o v71) (f := 16) (args := [(.tmp 155), (.tmp 156)]) (fn := Tryd.f16) (ys := [.agg [.val (.int .i64 v51.1.Z), .own 5 0 3 v51.1.Read.length], .agg [.val (.int .i64 a1.Z), tl e_Reading default a1.Read]]) (zs := [.agg [.val (.int .i64 v51.1.Z), .lst v51.1.Read.length (rowf e_Reading default v51.1.Read)], .agg [.val (.int .i64 a1.Z), tl e_Reading default a1.Read]]) (p := ((True ∧ (v51.1.Read.length ≤ v51.1.Read.length ∧ True)) ∧ ((True ∧ (True ∧ True)) ∧ True))) 14 (by kernel_rfl) (by kernel_rfl) (by kernel_rfl) (by kernel_rfl) (by kernel_rfl) (by kernel_rfl) ⟨⟨trivial, ⟨(Nat.le_refl _), trivial⟩⟩, ⟨⟨trivial, ⟨trivial, trivial⟩⟩, trivial⟩⟩ rfl (ref12_Same_ok (Ring.mk v51.1.Z v51.1.Read) a1 v71 h72) (by kernel_rfl) (by kernel_rfl) (by kernel_rfl) (ref12_Same_f v71)) ?_
                          refine A_pure (.v (.one (.val (.bool v71)))) [154, 157] [] (True) (by kernel_rfl) trivial ?_
                          refine A_pureE (boolV true) (boolV v71) (congrArg boolV b73) [158] [] (True) (by kernel_rfl) trivial ?_
                          refine A_pure (.v (.one (.val (.int .i64 v57.2)))) [13, 159] [] (True) (by kernel_rfl) trivial ?_
                          refine A_pure (.v (.one (.val (.bool (v57.2 == 0))))) [159, 160] [] (True) (by kernel_rfl) trivial ?_
                          refine A_pure (.v (.one (.val (.bool (v57.2 == 0))))) [159, 161] [] (True) (by kernel_rfl) trivial ?_
                          refine A_pureE (boolV true) (boolV (v57.2 == 0)) (congrArg boolV b74) [162] [] (True) (by kernel_rfl) trivial ?_
                          refine A_pure (.v (.agg [.val (.int .i64 v57.1.Z), .own 9 0 3 v57.1.Read.length])) [12, 163] [10] (True) (by kernel_rfl) trivial ?_
                          refine A_pure (.v (.agg [.val (.int .i64 v6.1.Z), .own 3 0 3 v6.1.Read.length])) [7, 163] [4] (True) (by kernel_rfl) trivial ?_
                          refine A_pure (.v (.one (.val (.int .i64 a3)))) [2, 163] [] (True) (by kernel_rfl) trivial ?_
                          refine A_run ⟨true, (ring_Turn_x v75).sh 14, obNv 14 (ring_Turn_o v75), obSh 14 (ring_Turn_o v75), [163, 165, 166], [3]⟩ (by kernel_rfl) (Step_call_own (x := ring_Turn_x v75) (ob := ring_Turn_o v75) (f := 19) (args := [(.tmp 165), (.tmp 166)]) (fn := Tryd.f19) (ys := [.agg [.val (.int .i64 v6.1.Z), .own 3 0 3 v6.1.Read.length], .one (.val (.int .i64 a3))]) (zs := [.agg [.val (.int .i64 v6.1.Z), .lst v6.1.Read.length (rowf e_Reading default v6.1.Read)], .one (.val (.int .i64 a3))]) (p := ((True ∧ (v6.1.Read.length ≤ v6.1.Read.length ∧ True)) ∧ (True ∧ True))) 14 (by kernel_rfl) (by kernel_rfl) (by kernel_rfl) (by kernel_rfl) (by kernel_rfl) (by kernel_rfl) ⟨⟨trivial, ⟨(Nat.le_refl _), trivial⟩⟩, ⟨trivial, trivial⟩⟩ rfl (ring_Turn_ok (Ring.mk v6.1.Z v6.1.Read) a3 v75 h76) (by kernel_rfl) (by kernel_rfl) (by kernel_rfl) (ring_Turn_f v75)) ?_
                          refine A_run ⟨true, (ref12_Same_x v77).sh 15, obNv 15 (ref12_Same_o v77), obSh 15 (ref12_Same_o v77), [163, 164, 167], [9, 14]⟩ (by kernel_rfl) (Step_call_own (x := ref12_Same_x v77) (ob := ref12_Same_o v77) (f := 16) (args := [(.tmp 164), (.tmp 167)]) (fn := Tryd.f16) (ys := [.agg [.val (.int .i64 v57.1.Z), .own 9 0 3 v57.1.Read.length], .agg [.val (.int .i64 v75.Z), .own 14 0 3 v75.Read.length]]) (zs := [.agg [.val (.int .i64 v57.1.Z), .lst v57.1.Read.length (rowf e_Reading default v57.1.Read)], .agg [.val (.int .i64 v75.Z), .lst v75.Read.length (rowf e_Reading default v75.Read)]]) (p := ((True ∧ (v57.1.Read.length ≤ v57.1.Read.length ∧ True)) ∧ ((True ∧ (v75.Read.length ≤ v75.Read.length ∧ True)) ∧ True))) 15 (by kernel_rfl) (by kernel_rfl) (by kernel_rfl) (by kernel_rfl) (by kernel_rfl) (by kernel_rfl) ⟨⟨trivial, ⟨(Nat.le_refl _), trivial⟩⟩, ⟨⟨trivial, ⟨(Nat.le_refl _), trivial⟩⟩, trivial⟩⟩ rfl (ref12_Same_ok (Ring.mk v57.1.Z v57.1.Read) (Ring.mk v75.Z v75.Read) v77 h78) (by kernel_rfl) (by kernel_rfl) (by kernel_rfl) (ref12_Same_f v77)) ?_
                          refine A_pure (.v (.one (.val (.bool v77)))) [163, 168] [] (True) (by kernel_rfl) trivial ?_
                          refine A_pureE (boolV true) (boolV v77) (congrArg boolV b79) [169] [] (True) (by kernel_rfl) trivial ?_
                          refine A_pure (.v (.agg [.val (.int .i64 v62.Z), .own 12 0 3 v62.Read.length])) [14, 170] [13] (True) (by kernel_rfl) trivial ?_
                          refine A_pure (.v (.agg [.val (.int .i64 a1.Z), tl e_Reading default a1.Read])) [3, 170] [1] (True) (by kernel_rfl) trivial ?_
                          refine A_run ⟨true, (ref12_Same_x v80).sh 15, obNv 15 (ref12_Same_o v80), obSh 15 (ref12_Same_o v80), [170, 171, 172], [12]⟩ (by kernel_rfl) (Step_call_own (x := ref12_Same_x v80) (ob := ref12_Same_o v80) (f := 16) (args := [(.tmp 171), (.tmp 172)]) (fn := Tryd.f16) (ys := [.agg [.val (.int .i64 v62.Z), .own 12 0 3 v62.Read.length], .agg [.val (.int .i64 a1.Z), tl e_Reading default a1.Read]]) (zs := [.agg [.val (.int .i64 v62.Z), .lst v62.Read.length (rowf e_Reading default v62.Read)], .agg [.val (.int .i64 a1.Z), tl e_Reading default a1.Read]]) (p := ((True ∧ (v62.Read.length ≤ v62.Read.length ∧ True)) ∧ ((True ∧ (True ∧ True)) ∧ True))) 15 (by kernel_rfl) (by kernel_rfl) (by kernel_rfl) (by kernel_rfl) (by kernel_rfl) (by kernel_rfl) ⟨⟨trivial, ⟨(Nat.le_refl _), trivial⟩⟩, ⟨⟨trivial, ⟨trivial, trivial⟩⟩, trivial⟩⟩ rfl (ref12_Same_ok (Ring.mk v62.Z v62.Read) a1 v80 h81) (by kernel_rfl) (by kernel_rfl) (by kernel_rfl) (ref12_Same_f v80)) ?_
                          refine A_pure (.v (.one (.val (.bool v80)))) [170, 173] [] (True) (by kernel_rfl) trivial ?_
                          refine A_pureE (boolV false) (boolV v80) (congrArg boolV b82) [174] [] (True) (by kernel_rfl) trivial ?_
                          refine A_skip [175] (by kernel_rfl) ?_
                          refine A_skip [175] (by kernel_rfl) ?_
                          refine A_skip [175] (by kernel_rfl) ?_
                          refine A_pure (.v (.one (.val (.bool false)))) [175, 178] [] (True) (by kernel_rfl) trivial ?_
                          refine A_pure (.v (.one (.val (.bool false)))) [179] [] (True) (by kernel_rfl) trivial ?_
                          refine A_skip [180] (by kernel_rfl) ?_
                          refine A_pure (.v (.one (.val (.bool false)))) [180, 181] [] (True) (by kernel_rfl) trivial ?_
                          refine A_pure (.v (.one (.val (.bool false)))) [182] [] (True) (by kernel_rfl) trivial ?_
                          exact A_end
                        · exact J_mk (false) hm (by kernel_rfl) (by kernel_rfl)
                    · replace hm := bif_f b79 hm
                      refine R_draw 16 (rg Tryd.f9 [1, 1, 1, 1, 1, 1, 1, 1, 1, 1, 0]) (by kernel_rfl) [⟨true, .v (.one (.val (.int .i64 v51.2))), [], [], [11], []⟩, ⟨true, .v (.one (.val (.bool (v51.2 == 0)))), [], [], [152], []⟩, ⟨true, boolV true, [], [], [153], []⟩, ⟨true, .v (.agg [.val (.int .i64 v51.1.Z), .own 5 0 3 v51.1.Read.length]), [], [], [10, 154], [6]⟩, ⟨true, .v (.agg [.val (.int .i64 a1.Z), tl e_Reading default a1.Read]), [], [], [3, 154], [1]⟩, ⟨true, (ref12_Same_x v71).sh 14, obNv 14 (ref12_Same_o v71), obSh 14 (ref12_Same_o v71), [154, 155, 156], [5]⟩, ⟨true, .v (.one (.val (.bool v71))), [], [], [154, 157], []⟩, ⟨true, boolV true, [], [], [158], []⟩, ⟨true, .v (.one (.val (.int .i64 v57.2))), [], [], [13, 159], []⟩, ⟨true, .v (.one (.val (.bool (v57.2 == 0)))), [], [], [159, 160], []⟩, ⟨true, .v (.one (.val (.bool (v57.2 == 0)))), [], [], [159, 161], []⟩, ⟨true, boolV true, [], [], [162], []⟩, ⟨true, .v (.agg [.val (.int .i64 v57.1.Z), .own 9 0 3 v57.1.Read.length]), [], [], [12, 163], [10]⟩, ⟨true, .v (.agg [.val (.int .i64 v6.1.Z), .own 3 0 3 v6.1.Read.length]), [], [], [7, 163], [4]⟩, ⟨true, .v (.one (.val (.int .i64 a3))), [], [], [2, 163], []⟩, ⟨true, (ring_Turn_x v75).sh 14, obNv 14 (ring_Turn_o v75), obSh 14 (ring_Turn_o v75), [163, 165, 166], [3]⟩, ⟨true, (ref12_Same_x v77).sh 15, obNv 15 (ref12_Same_o v77), obSh 15 (ref12_Same_o v77), [163, 164, 167], [9, 14]⟩, ⟨true, .v (.one (.val (.bool v77))), [], [], [163, 168], []⟩, ⟨true, boolV false, [], [], [169], []⟩, ⟨false, .undef, [], [], [170], []⟩, ⟨false, .undef, [], [], [170], []⟩, ⟨false, .undef, [], [], [170], []⟩, ⟨true, .v (.one (.val (.bool false))), [], [], [170, 173], []⟩, ⟨true, .v (.one (.val (.bool false))), [], [], [174], []⟩, ⟨false, .undef, [], [], [175], []⟩, ⟨false, .undef, [], [], [175], []⟩, ⟨false, .undef, [], [], [175], []⟩, ⟨true, .v (.one (.val (.bool false))), [], [], [175, 178], []⟩, ⟨true, .v (.one (.val (.bool false))), [], [], [179], []⟩, ⟨false, .undef, [], [], [180], []⟩, ⟨true, .v (.one (.val (.bool false))), [], [], [180, 181], []⟩, ⟨true, .v (.one (.val (.bool false))), [], [], [182], []⟩] [0, 1, 3, 7, 7, 31, 63, 127, 255, 511, 1023, 2047, 4095, 4095, 4095, 28671, 65535, 131071, 262143, 524287, 524287, 2097151, 4194303, 8388607, 16777215, 16777215, 67108863, 134217727, 268435455, 536870911, 1073741823, 2147483647] (by kernel_rfl) (by kernel_rfl) (by kernel_rfl) (by kernel_rfl) (by kernel_rfl) (by kernel_rfl) ?_ ?_
                      · refine A_pure (.v (.one (.val (.int .i64 v51.2)))) [11] [] (True) (by kernel_rfl) trivial ?_
                        refine A_pure (.v (.one (.val (.bool (v51.2 == 0))))) [152] [] (True) (by kernel_rfl) trivial ?_
                        refine A_pureE (boolV true) (boolV (v51.2 == 0)) (congrArg boolV b70) [153] [] (True) (by kernel_rfl) trivial ?_
                        refine A_pure (.v (.agg [.val (.int .i64 v51.1.Z), .own 5 0 3 v51.1.Read.length])) [10, 154] [6] (True) (by kernel_rfl) trivial ?_
                        refine A_pure (.v (.agg [.val (.int .i64 a1.Z), tl e_Reading default a1.Read])) [3, 154] [1] (True) (by kernel_rfl) trivial ?_
                        refine A_run ⟨true, (ref12_Same_x v71).sh 14, obNv 14 (ref12_Same_o v71), obSh 14 (ref12_Same_o v71), [154, 155, 156], [5]⟩ (by kernel_rfl) (Step_call_own (x := ref12_Same_x v71) (ob := ref12_Same_o v71) (f := 16) (args := [(.tmp 155), (.tmp 156)]) (fn := Tryd.f16) (ys := [.agg [.val (.int .i64 v51.1.Z), .own 5 0 3 v51.1.Read.length], .agg [.val (.int .i64 a1.Z), tl e_Reading default a1.Read]]) (zs := [.agg [.val (.int .i64 v51.1.Z), .lst v51.1.Read.length (rowf e_Reading default v51.1.Read)], .agg [.val (.int .i64 a1.Z), tl e_Reading default a1.Read]]) (p := ((True ∧ (v51.1.Read.length ≤ v51.1.Read.length ∧ True)) ∧ ((True ∧ (True ∧ True)) ∧ True))) 14 (by kernel_rfl) (by kernel_rfl) (by kernel_rfl) (by kernel_rfl) (by kernel_rfl) (by kernel_rfl) ⟨⟨trivial, ⟨(Nat.le_refl _), trivial⟩⟩, ⟨⟨trivial, ⟨trivial, trivial⟩⟩, trivial⟩⟩ rfl (ref12_Same_ok (Ring.mk v51.1.Z v51.1.Read) a1 v71 h72) (by kernel_rfl) (by kernel_rfl) (by kernel_rfl) (ref12_Same_f v71)) ?_
                        refine A_pure (.v (.one (.val (.bool v71)))) [154, 157] [] (True) (by kernel_rfl) trivial ?_
                        refine A_pureE (boolV true) (boolV v71) (congrArg boolV b73) [158] [] (True) (by kernel_rfl) trivial ?_
                        refine A_pure (.v (.one (.val (.int .i64 v57.2)))) [13, 159] [] (True) (by kernel_rfl) trivial ?_
                        refine A_pure (.v (.one (.val (.bool (v57.2 == 0))))) [159, 160] [] (True) (by kernel_rfl) trivial ?_
                        refine A_pure (.v (.one (.val (.bool (v57.2 == 0))))) [159, 161] [] (True) (by kernel_rfl) trivial ?_
                        refine A_pureE (boolV true) (boolV (v57.2 == 0)) (congrArg boolV b74) [162] [] (True) (by kernel_rfl) trivial ?_
                        refine A_pure (.v (.agg [.val (.int .i64 v57.1.Z), .own 9 0 3 v57.1.Read.length])) [12, 163] [10] (True) (by kernel_rfl) trivial ?_
                        refine A_pure (.v (.agg [.val (.int .i64 v6.1.Z), .own 3 0 3 v6.1.Read.length])) [7, 163] [4] (True) (by kernel_rfl) trivial ?_
                        refine A_pure (.v (.one (.val (.int .i64 a3)))) [2, 163] [] (True) (by kernel_rfl) trivial ?_
                        refine A_run ⟨true, (ring_Turn_x v75).sh 14, obNv 14 (ring_Turn_o v75), obSh 14 (ring_Turn_o v75), [163, 165, 166], [3]⟩ (by kernel_rfl) (Step_call_own (x := ring_Turn_x v75) (ob := ring_Turn_o v75) (f := 19) (args := [(.tmp 165), (.tmp 166)]) (fn := Tryd.f19) (ys := [.agg [.val (.int .i64 v6.1.Z), .own 3 0 3 v6.1.Read.length], .one (.val (.int .i64 a3))]) (zs := [.agg [.val (.int .i64 v6.1.Z), .lst v6.1.Read.length (rowf e_Reading default v6.1.Read)], .one (.val (.int .i64 a3))]) (p := ((True ∧ (v6.1.Read.length ≤ v6.1.Read.length ∧ True)) ∧ (True ∧ True))) 14 (by kernel_rfl) (by kernel_rfl) (by kernel_rfl) (by kernel_rfl) (by kernel_rfl) (by kernel_rfl) ⟨⟨trivial, ⟨(Nat.le_refl _), trivial⟩⟩, ⟨trivial, trivial⟩⟩ rfl (ring_Turn_ok (Ring.mk v6.1.Z v6.1.Read) a3 v75 h76) (by kernel_rfl) (by kernel_rfl) (by kernel_rfl) (ring_Turn_f v75)) ?_
                        refine A_run ⟨true, (ref12_Same_x v77).sh 15, obNv 15 (ref12_Same_o v77), obSh 15 (ref12_Same_o v77), [163, 164, 167], [9, 14]⟩ (by kernel_rfl) (Step_call_own (x := ref12_Same_x v77) (ob := ref12_Same_o v77) (f := 16) (args := [(.tmp 164), (.tmp 167)]) (fn := Tryd.f16) (ys := [.agg [.val (.int .i64 v57.1.Z), .own 9 0 3 v57.1.Read.length], .agg [.val (.int .i64 v75.Z), .own 14 0 3 v75.Read.length]]) (zs := [.agg [.val (.int .i64 v57.1.Z), .lst v57.1.Read.length (rowf e_Reading default v57.1.Read)], .agg [.val (.int .i64 v75.Z), .lst v75.Read.length (rowf e_Reading default v75.Read)]]) (p := ((True ∧ (v57.1.Read.length ≤ v57.1.Read.length ∧ True)) ∧ ((True ∧ (v75.Read.length ≤ v75.Read.length ∧ True)) ∧ True))) 15 (by kernel_rfl) (by kernel_rfl) (by kernel_rfl) (by kernel_rfl) (by kernel_rfl) (by kernel_rfl) ⟨⟨trivial, ⟨(Nat.le_refl _), trivial⟩⟩, ⟨⟨trivial, ⟨(Nat.le_refl _), trivial⟩⟩, trivial⟩⟩ rfl (ref12_Same_ok (Ring.mk v57.1.Z v57.1.Read) (Ring.mk v75.Z v75.Read) v77 h78) (by kernel_rfl) (by kernel_rfl) (by kernel_rfl) (ref12_Same_f v77)) ?_
                        refine A_pure (.v (.one (.val (.bool v77)))) [163, 168] [] (True) (by kernel_rfl) trivial ?_
                        refine A_pureE (boolV false) (boolV v77) (congrArg boolV b79) [169] [] (True) (by kernel_rfl) trivial ?_
                        refine A_skip [170] (by kernel_rfl) ?_
                        refine A_skip [170] (by kernel_rfl) ?_
                        refine A_skip [170] (by kernel_rfl) ?_
                        refine A_pure (.v (.one (.val (.bool false)))) [170, 173] [] (True) (by kernel_rfl) trivial ?_
                        refine A_pure (.v (.one (.val (.bool false)))) [174] [] (True) (by kernel_rfl) trivial ?_
                        refine A_skip [175] (by kernel_rfl) ?_
                        refine A_skip [175] (by kernel_rfl) ?_
                        refine A_skip [175] (by kernel_rfl) ?_
                        refine A_pure (.v (.one (.val (.bool false)))) [175, 178] [] (True) (by kernel_rfl) trivial ?_
                        refine A_pure (.v (.one (.val (.bool false)))) [179] [] (True) (by kernel_rfl) trivial ?_
                        refine A_skip [180] (by kernel_rfl) ?_
                        refine A_pure (.v (.one (.val (.bool false)))) [180, 181] [] (True) (by kernel_rfl) trivial ?_
                        refine A_pure (.v (.one (.val (.bool false)))) [182] [] (True) (by kernel_rfl) trivial ?_
                        exact A_end
                      · exact J_mk (false) hm (by kernel_rfl) (by kernel_rfl)
                  · replace hm := bif_f b74 hm
                    refine R_draw 16 (rg Tryd.f9 [1, 1, 1, 1, 1, 1, 1, 1, 1, 1, 0]) (by kernel_rfl) [⟨true, .v (.one (.val (.int .i64 v51.2))), [], [], [11], []⟩, ⟨true, .v (.one (.val (.bool (v51.2 == 0)))), [], [], [152], []⟩, ⟨true, boolV true, [], [], [153], []⟩, ⟨true, .v (.agg [.val (.int .i64 v51.1.Z), .own 5 0 3 v51.1.Read.length]), [], [], [10, 154], [6]⟩, ⟨true, .v (.agg [.val (.int .i64 a1.Z), tl e_Reading default a1.Read]), [], [], [3, 154], [1]⟩, ⟨true, (ref12_Same_x v71).sh 14, obNv 14 (ref12_Same_o v71), obSh 14 (ref12_Same_o v71), [154, 155, 156], [5]⟩, ⟨true, .v (.one (.val (.bool v71))), [], [], [154, 157], []⟩, ⟨true, boolV true, [], [], [158], []⟩, ⟨true, .v (.one (.val (.int .i64 v57.2))), [], [], [13, 159], []⟩, ⟨true, .v (.one (.val (.bool (v57.2 == 0)))), [], [], [159, 160], []⟩, ⟨true, .v (.one (.val (.bool (v57.2 == 0)))), [], [], [159, 161], []⟩, ⟨true, boolV false, [], [], [162], []⟩, ⟨false, .undef, [], [], [163], []⟩, ⟨false, .undef, [], [], [163], []⟩, ⟨false, .undef, [], [], [163], []⟩, ⟨false, .undef, [], [], [163], []⟩, ⟨false, .undef, [], [], [163], []⟩, ⟨true, .v (.one (.val (.bool false))), [], [], [163, 168], []⟩, ⟨true, .v (.one (.val (.bool false))), [], [], [169], []⟩, ⟨false, .undef, [], [], [170], []⟩, ⟨false, .undef, [], [], [170], []⟩, ⟨false, .undef, [], [], [170], []⟩, ⟨true, .v (.one (.val (.bool false))), [], [], [170, 173], []⟩, ⟨true, .v (.one (.val (.bool false))), [], [], [174], []⟩, ⟨false, .undef, [], [], [175], []⟩, ⟨false, .undef, [], [], [175], []⟩, ⟨false, .undef, [], [], [175], []⟩, ⟨true, .v (.one (.val (.bool false))), [], [], [175, 178], []⟩, ⟨true, .v (.one (.val (.bool false))), [], [], [179], []⟩, ⟨false, .undef, [], [], [180], []⟩, ⟨true, .v (.one (.val (.bool false))), [], [], [180, 181], []⟩, ⟨true, .v (.one (.val (.bool false))), [], [], [182], []⟩] [0, 1, 3, 7, 7, 31, 63, 127, 255, 511, 1023, 2047, 4095, 4095, 4095, 28671, 65535, 131071, 262143, 524287, 524287, 2097151, 4194303, 8388607, 16777215, 16777215, 67108863, 134217727, 268435455, 536870911, 1073741823, 2147483647] (by kernel_rfl) (by kernel_rfl) (by kernel_rfl) (by kernel_rfl) (by kernel_rfl) (by kernel_rfl) ?_ ?_
                    · refine A_pure (.v (.one (.val (.int .i64 v51.2)))) [11] [] (True) (by kernel_rfl) trivial ?_
                      refine A_pure (.v (.one (.val (.bool (v51.2 == 0))))) [152] [] (True) (by kernel_rfl) trivial ?_
                      refine A_pureE (boolV true) (boolV (v51.2 == 0)) (congrArg boolV b70) [153] [] (True) (by kernel_rfl) trivial ?_
                      refine A_pure (.v (.agg [.val (.int .i64 v51.1.Z), .own 5 0 3 v51.1.Read.length])) [10, 154] [6] (True) (by kernel_rfl) trivial ?_
                      refine A_pure (.v (.agg [.val (.int .i64 a1.Z), tl e_Reading default a1.Read])) [3, 154] [1] (True) (by kernel_rfl) trivial ?_
                      refine A_run ⟨true, (ref12_Same_x v71).sh 14, obNv 14 (ref12_Same_o v71), obSh 14 (ref12_Same_o v71), [154, 155, 156], [5]⟩ (by kernel_rfl) (Step_call_own (x := ref12_Same_x v71) (ob := ref12_Same_o v71) (f := 16) (args := [(.tmp 155), (.tmp 156)]) (fn := Tryd.f16) (ys := [.agg [.val (.int .i64 v51.1.Z), .own 5 0 3 v51.1.Read.length], .agg [.val (.int .i64 a1.Z), tl e_Reading default a1.Read]]) (zs := [.agg [.val (.int .i64 v51.1.Z), .lst v51.1.Read.length (rowf e_Reading default v51.1.Read)], .agg [.val (.int .i64 a1.Z), tl e_Reading default a1.Read]]) (p := ((True ∧ (v51.1.Read.length ≤ v51.1.Read.length ∧ True)) ∧ ((True ∧ (True ∧ True)) ∧ True))) 14 (by kernel_rfl) (by kernel_rfl) (by kernel_rfl) (by kernel_rfl) (by kernel_rfl) (by kernel_rfl) ⟨⟨trivial, ⟨(Nat.le_refl _), trivial⟩⟩, ⟨⟨trivial, ⟨trivial, trivial⟩⟩, trivial⟩⟩ rfl (ref12_Same_ok (Ring.mk v51.1.Z v51.1.Read) a1 v71 h72) (by kernel_rfl) (by kernel_rfl) (by kernel_rfl) (ref12_Same_f v71)) ?_
                      refine A_pure (.v (.one (.val (.bool v71)))) [154, 157] [] (True) (by kernel_rfl) trivial ?_
                      refine A_pureE (boolV true) (boolV v71) (congrArg boolV b73) [158] [] (True) (by kernel_rfl) trivial ?_
                      refine A_pure (.v (.one (.val (.int .i64 v57.2)))) [13, 159] [] (True) (by kernel_rfl) trivial ?_
                      refine A_pure (.v (.one (.val (.bool (v57.2 == 0))))) [159, 160] [] (True) (by kernel_rfl) trivial ?_
                      refine A_pure (.v (.one (.val (.bool (v57.2 == 0))))) [159, 161] [] (True) (by kernel_rfl) trivial ?_
                      refine A_pureE (boolV false) (boolV (v57.2 == 0)) (congrArg boolV b74) [162] [] (True) (by kernel_rfl) trivial ?_
                      refine A_skip [163] (by kernel_rfl) ?_
                      refine A_skip [163] (by kernel_rfl) ?_
                      refine A_skip [163] (by kernel_rfl) ?_
                      refine A_skip [163] (by kernel_rfl) ?_
                      refine A_skip [163] (by kernel_rfl) ?_
                      refine A_pure (.v (.one (.val (.bool false)))) [163, 168] [] (True) (by kernel_rfl) trivial ?_
                      refine A_pure (.v (.one (.val (.bool false)))) [169] [] (True) (by kernel_rfl) trivial ?_
                      refine A_skip [170] (by kernel_rfl) ?_
                      refine A_skip [170] (by kernel_rfl) ?_
                      refine A_skip [170] (by kernel_rfl) ?_
                      refine A_pure (.v (.one (.val (.bool false)))) [170, 173] [] (True) (by kernel_rfl) trivial ?_
                      refine A_pure (.v (.one (.val (.bool false)))) [174] [] (True) (by kernel_rfl) trivial ?_
                      refine A_skip [175] (by kernel_rfl) ?_
                      refine A_skip [175] (by kernel_rfl) ?_
                      refine A_skip [175] (by kernel_rfl) ?_
                      refine A_pure (.v (.one (.val (.bool false)))) [175, 178] [] (True) (by kernel_rfl) trivial ?_
                      refine A_pure (.v (.one (.val (.bool false)))) [179] [] (True) (by kernel_rfl) trivial ?_
                      refine A_skip [180] (by kernel_rfl) ?_
                      refine A_pure (.v (.one (.val (.bool false)))) [180, 181] [] (True) (by kernel_rfl) trivial ?_
                      refine A_pure (.v (.one (.val (.bool false)))) [182] [] (True) (by kernel_rfl) trivial ?_
                      exact A_end
                    · exact J_mk (false) hm (by kernel_rfl) (by kernel_rfl)
                · replace hm := bif_f b73 hm
                  refine R_draw 16 (rg Tryd.f9 [1, 1, 1, 1, 1, 1, 1, 1, 1, 1, 0]) (by kernel_rfl) [⟨true, .v (.one (.val (.int .i64 v51.2))), [], [], [11], []⟩, ⟨true, .v (.one (.val (.bool (v51.2 == 0)))), [], [], [152], []⟩, ⟨true, boolV true, [], [], [153], []⟩, ⟨true, .v (.agg [.val (.int .i64 v51.1.Z), .own 5 0 3 v51.1.Read.length]), [], [], [10, 154], [6]⟩, ⟨true, .v (.agg [.val (.int .i64 a1.Z), tl e_Reading default a1.Read]), [], [], [3, 154], [1]⟩, ⟨true, (ref12_Same_x v71).sh 14, obNv 14 (ref12_Same_o v71), obSh 14 (ref12_Same_o v71), [154, 155, 156], [5]⟩, ⟨true, .v (.one (.val (.bool v71))), [], [], [154, 157], []⟩, ⟨true, boolV false, [], [], [158], []⟩, ⟨false, .undef, [], [], [159], []⟩, ⟨false, .undef, [], [], [159], []⟩, ⟨true, .v (.one (.val (.bool false))), [], [], [159, 161], []⟩, ⟨true, .v (.one (.val (.bool false))), [], [], [162], []⟩, ⟨false, .undef, [], [], [163], []⟩, ⟨false, .undef, [], [], [163], []⟩, ⟨false, .undef, [], [], [163], []⟩, ⟨false, .undef, [], [], [163], []⟩, ⟨false, .undef, [], [], [163], []⟩, ⟨true, .v (.one (.val (.bool false))), [], [], [163, 168], []⟩, ⟨true, .v (.one (.val (.bool false))), [], [], [169], []⟩, ⟨false, .undef, [], [], [170], []⟩, ⟨false, .undef, [], [], [170], []⟩, ⟨false, .undef, [], [], [170], []⟩, ⟨true, .v (.one (.val (.bool false))), [], [], [170, 173], []⟩, ⟨true, .v (.one (.val (.bool false))), [], [], [174], []⟩, ⟨false, .undef, [], [], [175], []⟩, ⟨false, .undef, [], [], [175], []⟩, ⟨false, .undef, [], [], [175], []⟩, ⟨true, .v (.one (.val (.bool false))), [], [], [175, 178], []⟩, ⟨true, .v (.one (.val (.bool false))), [], [], [179], []⟩, ⟨false, .undef, [], [], [180], []⟩, ⟨true, .v (.one (.val (.bool false))), [], [], [180, 181], []⟩, ⟨true, .v (.one (.val (.bool false))), [], [], [182], []⟩] [0, 1, 3, 7, 7, 31, 63, 127, 255, 511, 1023, 2047, 4095, 4095, 4095, 28671, 65535, 131071, 262143, 524287, 524287, 2097151, 4194303, 8388607, 16777215, 16777215, 67108863, 134217727, 268435455, 536870911, 1073741823, 2147483647] (by kernel_rfl) (by kernel_rfl) (by kernel_rfl) (by kernel_rfl) (by kernel_rfl) (by kernel_rfl) ?_ ?_
                  · refine A_pure (.v (.one (.val (.int .i64 v51.2)))) [11] [] (True) (by kernel_rfl) trivial ?_
                    refine A_pure (.v (.one (.val (.bool (v51.2 == 0))))) [152] [] (True) (by kernel_rfl) trivial ?_
                    refine A_pureE (boolV true) (boolV (v51.2 == 0)) (congrArg boolV b70) [153] [] (True) (by kernel_rfl) trivial ?_
                    refine A_pure (.v (.agg [.val (.int .i64 v51.1.Z), .own 5 0 3 v51.1.Read.length])) [10, 154] [6] (True) (by kernel_rfl) trivial ?_
                    refine A_pure (.v (.agg [.val (.int .i64 a1.Z), tl e_Reading default a1.Read])) [3, 154] [1] (True) (by kernel_rfl) trivial ?_
                    refine A_run ⟨true, (ref12_Same_x v71).sh 14, obNv 14 (ref12_Same_o v71), obSh 14 (ref12_Same_o v71), [154, 155, 156], [5]⟩ (by kernel_rfl) (Step_call_own (x := ref12_Same_x v71) (ob := ref12_Same_o v71) (f := 16) (args := [(.tmp 155), (.tmp 156)]) (fn := Tryd.f16) (ys := [.agg [.val (.int .i64 v51.1.Z), .own 5 0 3 v51.1.Read.length], .agg [.val (.int .i64 a1.Z), tl e_Reading default a1.Read]]) (zs := [.agg [.val (.int .i64 v51.1.Z), .lst v51.1.Read.length (rowf e_Reading default v51.1.Read)], .agg [.val (.int .i64 a1.Z), tl e_Reading default a1.Read]]) (p := ((True ∧ (v51.1.Read.length ≤ v51.1.Read.length ∧ True)) ∧ ((True ∧ (True ∧ True)) ∧ True))) 14 (by kernel_rfl) (by kernel_rfl) (by kernel_rfl) (by kernel_rfl) (by kernel_rfl) (by kernel_rfl) ⟨⟨trivial, ⟨(Nat.le_refl _), trivial⟩⟩, ⟨⟨trivial, ⟨trivial, trivial⟩⟩, trivial⟩⟩ rfl (ref12_Same_ok (Ring.mk v51.1.Z v51.1.Read) a1 v71 h72) (by kernel_rfl) (by kernel_rfl) (by kernel_rfl) (ref12_Same_f v71)) ?_
                    refine A_pure (.v (.one (.val (.bool v71)))) [154, 157] [] (True) (by kernel_rfl) trivial ?_
                    refine A_pureE (boolV false) (boolV v71) (congrArg boolV b73) [158] [] (True) (by kernel_rfl) trivial ?_
                    refine A_skip [159] (by kernel_rfl) ?_
                    refine A_skip [159] (by kernel_rfl) ?_
                    refine A_pure (.v (.one (.val (.bool false)))) [159, 161] [] (True) (by kernel_rfl) trivial ?_
                    refine A_pure (.v (.one (.val (.bool false)))) [162] [] (True) (by kernel_rfl) trivial ?_
                    refine A_skip [163] (by kernel_rfl) ?_
                    refine A_skip [163] (by kernel_rfl) ?_
                    refine A_skip [163] (by kernel_rfl) ?_
                    refine A_skip [163] (by kernel_rfl) ?_
                    refine A_skip [163] (by kernel_rfl) ?_
                    refine A_pure (.v (.one (.val (.bool false)))) [163, 168] [] (True) (by kernel_rfl) trivial ?_
                    refine A_pure (.v (.one (.val (.bool false)))) [169] [] (True) (by kernel_rfl) trivial ?_
                    refine A_skip [170] (by kernel_rfl) ?_
                    refine A_skip [170] (by kernel_rfl) ?_
                    refine A_skip [170] (by kernel_rfl) ?_
                    refine A_pure (.v (.one (.val (.bool false)))) [170, 173] [] (True) (by kernel_rfl) trivial ?_
                    refine A_pure (.v (.one (.val (.bool false)))) [174] [] (True) (by kernel_rfl) trivial ?_
                    refine A_skip [175] (by kernel_rfl) ?_
                    refine A_skip [175] (by kernel_rfl) ?_
                    refine A_skip [175] (by kernel_rfl) ?_
                    refine A_pure (.v (.one (.val (.bool false)))) [175, 178] [] (True) (by kernel_rfl) trivial ?_
                    refine A_pure (.v (.one (.val (.bool false)))) [179] [] (True) (by kernel_rfl) trivial ?_
                    refine A_skip [180] (by kernel_rfl) ?_
                    refine A_pure (.v (.one (.val (.bool false)))) [180, 181] [] (True) (by kernel_rfl) trivial ?_
                    refine A_pure (.v (.one (.val (.bool false)))) [182] [] (True) (by kernel_rfl) trivial ?_
                    exact A_end
                  · exact J_mk (false) hm (by kernel_rfl) (by kernel_rfl)
              · replace hm := bif_f b70 hm
                refine R_draw 16 (rg Tryd.f9 [1, 1, 1, 1, 1, 1, 1, 1, 1, 1, 0]) (by kernel_rfl) [⟨true, .v (.one (.val (.int .i64 v51.2))), [], [], [11], []⟩, ⟨true, .v (.one (.val (.bool (v51.2 == 0)))), [], [], [152], []⟩, ⟨true, boolV false, [], [], [153], []⟩, ⟨false, .undef, [], [], [154], []⟩, ⟨false, .undef, [], [], [154], []⟩, ⟨false, .undef, [], [], [154], []⟩, ⟨true, .v (.one (.val (.bool false))), [], [], [154, 157], []⟩, ⟨true, .v (.one (.val (.bool false))), [], [], [158], []⟩, ⟨false, .undef, [], [], [159], []⟩, ⟨false, .undef, [], [], [159], []⟩, ⟨true, .v (.one (.val (.bool false))), [], [], [159, 161], []⟩, ⟨true, .v (.one (.val (.bool false))), [], [], [162], []⟩, ⟨false, .undef, [], [], [163], []⟩, ⟨false, .undef, [], [], [163], []⟩, ⟨false, .undef, [], [], [163], []⟩, ⟨false, .undef, [], [], [163], []⟩, ⟨false, .undef, [], [], [163], []⟩, ⟨true, .v (.one (.val (.bool false))), [], [], [163, 168], []⟩, ⟨true, .v (.one (.val (.bool false))), [], [], [169], []⟩, ⟨false, .undef, [], [], [170], []⟩, ⟨false, .undef, [], [], [170], []⟩, ⟨false, .undef, [], [], [170], []⟩, ⟨true, .v (.one (.val (.bool false))), [], [], [170, 173], []⟩, ⟨true, .v (.one (.val (.bool false))), [], [], [174], []⟩, ⟨false, .undef, [], [], [175], []⟩, ⟨false, .undef, [], [], [175], []⟩, ⟨false, .undef, [], [], [175], []⟩, ⟨true, .v (.one (.val (.bool false))), [], [], [175, 178], []⟩, ⟨true, .v (.one (.val (.bool false))), [], [], [179], []⟩, ⟨false, .undef, [], [], [180], []⟩, ⟨true, .v (.one (.val (.bool false))), [], [], [180, 181], []⟩, ⟨true, .v (.one (.val (.bool false))), [], [], [182], []⟩] [0, 1, 3, 7, 7, 31, 63, 127, 255, 511, 1023, 2047, 4095, 4095, 4095, 28671, 65535, 131071, 262143, 524287, 524287, 2097151, 4194303, 8388607, 16777215, 16777215, 67108863, 134217727, 268435455, 536870911, 1073741823, 2147483647] (by kernel_rfl) (by kernel_rfl) (by kernel_rfl) (by kernel_rfl) (by kernel_rfl) (by kernel_rfl) ?_ ?_
                · refine A_pure (.v (.one (.val (.int .i64 v51.2)))) [11] [] (True) (by kernel_rfl) trivial ?_
                  refine A_pure (.v (.one (.val (.bool (v51.2 == 0))))) [152] [] (True) (by kernel_rfl) trivial ?_
                  refine A_pureE (boolV false) (boolV (v51.2 == 0)) (congrArg boolV b70) [153] [] (True) (by kernel_rfl) trivial ?_
                  refine A_skip [154] (by kernel_rfl) ?_
                  refine A_skip [154] (by kernel_rfl) ?_
                  refine A_skip [154] (by kernel_rfl) ?_
                  refine A_pure (.v (.one (.val (.bool false)))) [154, 157] [] (True) (by kernel_rfl) trivial ?_
                  refine A_pure (.v (.one (.val (.bool false)))) [158] [] (True) (by kernel_rfl) trivial ?_
                  refine A_skip [159] (by kernel_rfl) ?_
                  refine A_skip [159] (by kernel_rfl) ?_
                  refine A_pure (.v (.one (.val (.bool false)))) [159, 161] [] (True) (by kernel_rfl) trivial ?_
                  refine A_pure (.v (.one (.val (.bool false)))) [162] [] (True) (by kernel_rfl) trivial ?_
                  refine A_skip [163] (by kernel_rfl) ?_
                  refine A_skip [163] (by kernel_rfl) ?_
                  refine A_skip [163] (by kernel_rfl) ?_
                  refine A_skip [163] (by kernel_rfl) ?_
                  refine A_skip [163] (by kernel_rfl) ?_
                  refine A_pure (.v (.one (.val (.bool false)))) [163, 168] [] (True) (by kernel_rfl) trivial ?_
                  refine A_pure (.v (.one (.val (.bool false)))) [169] [] (True) (by kernel_rfl) trivial ?_
                  refine A_skip [170] (by kernel_rfl) ?_
                  refine A_skip [170] (by kernel_rfl) ?_
                  refine A_skip [170] (by kernel_rfl) ?_
                  refine A_pure (.v (.one (.val (.bool false)))) [170, 173] [] (True) (by kernel_rfl) trivial ?_
                  refine A_pure (.v (.one (.val (.bool false)))) [174] [] (True) (by kernel_rfl) trivial ?_
                  refine A_skip [175] (by kernel_rfl) ?_
                  refine A_skip [175] (by kernel_rfl) ?_
                  refine A_skip [175] (by kernel_rfl) ?_
                  refine A_pure (.v (.one (.val (.bool false)))) [175, 178] [] (True) (by kernel_rfl) trivial ?_
                  refine A_pure (.v (.one (.val (.bool false)))) [179] [] (True) (by kernel_rfl) trivial ?_
                  refine A_skip [180] (by kernel_rfl) ?_
                  refine A_pure (.v (.one (.val (.bool false)))) [180, 181] [] (True) (by kernel_rfl) trivial ?_
                  refine A_pure (.v (.one (.val (.bool false)))) [182] [] (True) (by kernel_rfl) trivial ?_
                  exact A_end
                · exact J_mk (false) hm (by kernel_rfl) (by kernel_rfl)
    · refine R_region 4 (rg Tryd.f9 [1, 1, 1, 0, 0]) (by kernel_rfl) ?_
      have k16 : opsOk 183 (rg Tryd.f9 [1, 1, 1, 0, 0]) = true := by kernel_rfl
      refine P_op k16 (.v (.agg [.val (.int .i64 a1.Z), tl e_Reading default a1.Read])) (by kernel_rfl) ?_
      obtain ⟨v17, h18, hm⟩ := bind_s hm
      refine P_step k16 (obNv 5 (ring_Check_o v17)) (obSh 5 (ring_Check_o v17)) ((ring_Check_x v17).sh 5) (by kernel_rfl) (Step_call (x := ring_Check_x v17) (ob := ring_Check_o v17) (f := 14) (args := [(.tmp 39)]) (fn := Tryd.f14) (ys := [.agg [.val (.int .i64 a1.Z), tl e_Reading default a1.Read]]) 5 (by kernel_rfl) (by kernel_rfl) (by kernel_rfl) (by kernel_rfl) (by kernel_rfl) (by kernel_rfl) rfl (ring_Check_ok a1 v17 h18) (by kernel_rfl) (by kernel_rfl)) ?_
      refine P_op k16 (.v (.one (.val (.bool (v17 != 0))))) (by kernel_rfl) ?_
      refine P_op k16 (.v (.one (.val (.bool (v17 != 0))))) (by kernel_rfl) ?_
      refine HOps_bool 42 (v17 != 0) (by kernel_rfl) (fun b19 => ?_) (fun b19 => ?_)
      · replace hm := bif_t b19 hm
        refine P_skip k16 (by kernel_rfl) ?_
        refine P_skip k16 (by kernel_rfl) ?_
        refine P_skip k16 (by kernel_rfl) ?_
        refine P_op k16 (.v (.one (.val (.bool true)))) (by kernel_rfl) ?_
        refine P_op k16 (.v (.one (.val (.bool true)))) (by kernel_rfl) ?_
        refine P_skip k16 (by kernel_rfl) ?_
        refine P_skip k16 (by kernel_rfl) ?_
        refine P_skip k16 (by kernel_rfl) ?_
        refine P_skip k16 (by kernel_rfl) ?_
        refine P_skip k16 (by kernel_rfl) ?_
        refine P_skip k16 (by kernel_rfl) ?_
        refine P_skip k16 (by kernel_rfl) ?_
        refine P_op k16 (.v (.one (.val (.bool true)))) (by kernel_rfl) ?_
        refine P_op k16 (.v (.one (.val (.bool true)))) (by kernel_rfl) ?_
        refine P_skip k16 (by kernel_rfl) ?_
        refine P_skip k16 (by kernel_rfl) ?_
        refine P_skip k16 (by kernel_rfl) ?_
        refine P_skip k16 (by kernel_rfl) ?_
        refine P_skip k16 (by kernel_rfl) ?_
        refine P_skip k16 (by kernel_rfl) ?_
        refine P_skip k16 (by kernel_rfl) ?_
        refine P_op k16 (.v (.one (.val (.bool true)))) (by kernel_rfl) ?_
        refine P_op k16 (.v (.one (.val (.bool true)))) (by kernel_rfl) ?_
        refine P_skip k16 (by kernel_rfl) ?_
        refine P_skip k16 (by kernel_rfl) ?_
        refine P_skip k16 (by kernel_rfl) ?_
        refine P_op k16 (.v (.one (.val (.bool true)))) (by kernel_rfl) ?_
        refine HOps_end (by kernel_rfl) ?_
        exact J_mk (true) hm (by kernel_rfl) (by kernel_rfl)
      · replace hm := bif_f b19 hm
        refine P_op k16 (.v (.agg [.val (.int .i64 a2.Z), tl e_Reading default a2.Read])) (by kernel_rfl) ?_
        obtain ⟨v20, h21, hm⟩ := bind_s hm
        refine P_step k16 (obNv 5 (ring_Check_o v20)) (obSh 5 (ring_Check_o v20)) ((ring_Check_x v20).sh 5) (by kernel_rfl) (Step_call (x := ring_Check_x v20) (ob := ring_Check_o v20) (f := 14) (args := [(.tmp 43)]) (fn := Tryd.f14) (ys := [.agg [.val (.int .i64 a2.Z), tl e_Reading default a2.Read]]) 5 (by kernel_rfl) (by kernel_rfl) (by kernel_rfl) (by kernel_rfl) (by kernel_rfl) (by kernel_rfl) rfl (ring_Check_ok a2 v20 h21) (by kernel_rfl) (by kernel_rfl)) ?_
        refine P_op k16 (.v (.one (.val (.bool (v20 != 0))))) (by kernel_rfl) ?_
        refine P_op k16 (.v (.one (.val (.bool (v20 != 0))))) (by kernel_rfl) ?_
        refine P_op k16 (.v (.one (.val (.bool (v20 != 0))))) (by kernel_rfl) ?_
        refine HOps_bool 47 (v20 != 0) (by kernel_rfl) (fun b22 => ?_) (fun b22 => ?_)
        · replace hm := bif_t b22 hm
          refine P_skip k16 (by kernel_rfl) ?_
          refine P_skip k16 (by kernel_rfl) ?_
          refine P_skip k16 (by kernel_rfl) ?_
          refine P_skip k16 (by kernel_rfl) ?_
          refine P_skip k16 (by kernel_rfl) ?_
          refine P_skip k16 (by kernel_rfl) ?_
          refine P_skip k16 (by kernel_rfl) ?_
          refine P_op k16 (.v (.one (.val (.bool true)))) (by kernel_rfl) ?_
          refine P_op k16 (.v (.one (.val (.bool true)))) (by kernel_rfl) ?_
          refine P_skip k16 (by kernel_rfl) ?_
          refine P_skip k16 (by kernel_rfl) ?_
          refine P_skip k16 (by kernel_rfl) ?_
          refine P_skip k16 (by kernel_rfl) ?_
          refine P_skip k16 (by kernel_rfl) ?_
          refine P_skip k16 (by kernel_rfl) ?_
          refine P_skip k16 (by kernel_rfl) ?_
          refine P_op k16 (.v (.one (.val (.bool true)))) (by kernel_rfl) ?_
          refine P_op k16 (.v (.one (.val (.bool true)))) (by kernel_rfl) ?_
          refine P_skip k16 (by kernel_rfl) ?_
          refine P_skip k16 (by kernel_rfl) ?_
          refine P_skip k16 (by kernel_rfl) ?_
          refine P_op k16 (.v (.one (.val (.bool true)))) (by kernel_rfl) ?_
          refine HOps_end (by kernel_rfl) ?_
          exact J_mk (true) hm (by kernel_rfl) (by kernel_rfl)
        · replace hm := bif_f b22 hm
          refine P_op k16 (.v (.one (.bptr 4 0 1))) (by kernel_rfl) ?_
          refine P_op k16 (.v (.one (.own 3 0 3 v6.1.Read.length))) (by kernel_rfl) ?_
          refine P_op k16 (.v (.one (.val (.int .i64 ((v6.1.Read.length : Nat) : Int))))) (by kernel_rfl) ?_
          refine P_op k16 (.v (.one (.bptr 1 0 1))) (by kernel_rfl) ?_
          refine P_op k16 (.v (.one (tl e_Reading default a1.Read))) (by kernel_rfl) ?_
          refine P_op k16 (.v (.one (.val (.int .i64 ((a1.Read.length : Nat) : Int))))) (by kernel_rfl) ?_
          refine P_op k16 (.v (.one (.val (.bool (((v6.1.Read.length : Nat) : Int) != ((a1.Read.length : Nat) : Int)))))) (by kernel_rfl) ?_
          refine P_op k16 (.v (.one (.val (.bool (((v6.1.Read.length : Nat) : Int) != ((a1.Read.length : Nat) : Int)))))) (by kernel_rfl) ?_
          refine P_op k16 (.v (.one (.val (.bool (((v6.1.Read.length : Nat) : Int) != ((a1.Read.length : Nat) : Int)))))) (by kernel_rfl) ?_
          refine HOps_bool 56 (((v6.1.Read.length : Nat) : Int) != ((a1.Read.length : Nat) : Int)) (by kernel_rfl) (fun b23 => ?_) (fun b23 => ?_)
          · replace hm := bif_t b23 hm
            refine P_skip k16 (by kernel_rfl) ?_
            refine P_skip k16 (by kernel_rfl) ?_
            refine P_skip k16 (by kernel_rfl) ?_
            refine P_skip k16 (by kernel_rfl) ?_
            refine P_skip k16 (by kernel_rfl) ?_
            refine P_skip k16 (by kernel_rfl) ?_
            refine P_skip k16 (by kernel_rfl) ?_
            refine P_op k16 (.v (.one (.val (.bool true)))) (by kernel_rfl) ?_
            refine P_op k16 (.v (.one (.val (.bool true)))) (by kernel_rfl) ?_
            refine P_skip k16 (by kernel_rfl) ?_
            refine P_skip k16 (by kernel_rfl) ?_
            refine P_skip k16 (by kernel_rfl) ?_
            refine P_op k16 (.v (.one (.val (.bool true)))) (by kernel_rfl) ?_
            refine HOps_end (by kernel_rfl) ?_
            exact J_mk (true) hm (by kernel_rfl) (by kernel_rfl)
          · replace hm := bif_f b23 hm
            refine P_op k16 (.v (.one (.bptr 2 0 1))) (by kernel_rfl) ?_
            refine P_op k16 (.v (.one (tl e_Reading default a2.Read))) (by kernel_rfl) ?_
            refine P_op k16 (.v (.one (.val (.int .i64 ((a2.Read.length : Nat) : Int))))) (by kernel_rfl) ?_
            refine P_op k16 (.v (.one (.bptr 1 0 1))) (by kernel_rfl) ?_
            refine P_op k16 (.v (.one (tl e_Reading default a1.Read))) (by kernel_rfl) ?_
            refine P_op k16 (.v (.one (.val (.int .i64 ((a1.Read.length : Nat) : Int))))) (by kernel_rfl) ?_
            refine P_op k16 (.v (.one (.val (.bool (((a2.Read.length : Nat) : Int) != ((a1.Read.length : Nat) : Int)))))) (by kernel_rfl) ?_
            refine P_op k16 (.v (.one (.val (.bool (((a2.Read.length : Nat) : Int) != ((a1.Read.length : Nat) : Int)))))) (by kernel_rfl) ?_
            refine P_op k16 (.v (.one (.val (.bool (((a2.Read.length : Nat) : Int) != ((a1.Read.length : Nat) : Int)))))) (by kernel_rfl) ?_
            refine HOps_bool 65 (((a2.Read.length : Nat) : Int) != ((a1.Read.length : Nat) : Int)) (by kernel_rfl) (fun b24 => ?_) (fun b24 => ?_)
            · replace hm := bif_t b24 hm
              refine P_skip k16 (by kernel_rfl) ?_
              refine P_skip k16 (by kernel_rfl) ?_
              refine P_skip k16 (by kernel_rfl) ?_
              refine P_op k16 (.v (.one (.val (.bool true)))) (by kernel_rfl) ?_
              refine HOps_end (by kernel_rfl) ?_
              exact J_mk (true) hm (by kernel_rfl) (by kernel_rfl)
            · replace hm := bif_f b24 hm
              refine P_op k16 (.v (.agg [.val (.int .i64 v6.1.Z), .own 3 0 3 v6.1.Read.length])) (by kernel_rfl) ?_
              obtain ⟨v25, h26, hm⟩ := bind_s hm
              refine P_step k16 (obNv 5 (ring_Check_o v25)) (obSh 5 (ring_Check_o v25)) ((ring_Check_x v25).sh 5) (by kernel_rfl) (Step_call_own (x := ring_Check_x v25) (ob := ring_Check_o v25) (f := 14) (args := [(.tmp 66)]) (fn := Tryd.f14) (ys := [.agg [.val (.int .i64 v6.1.Z), .own 3 0 3 v6.1.Read.length]]) (zs := [.agg [.val (.int .i64 v6.1.Z), .lst v6.1.Read.length (rowf e_Reading default v6.1.Read)]]) (p := ((True ∧ (v6.1.Read.length ≤ v6.1.Read.length ∧ True)) ∧ True)) 5 (by kernel_rfl) (by kernel_rfl) (by kernel_rfl) (by kernel_rfl) (by kernel_rfl) (by kernel_rfl) ⟨⟨trivial, ⟨(Nat.le_refl _), trivial⟩⟩, trivial⟩ rfl (ring_Check_ok (Ring.mk v6.1.Z v6.1.Read) v25 h26) (by kernel_rfl) (by kernel_rfl) (by kernel_rfl) (ring_Check_f v25)) ?_
              refine P_op k16 (.v (.one (.val (.bool (v25 != 0))))) (by kernel_rfl) ?_
              refine P_op k16 (.v (.one (.val (.bool (v25 != 0))))) (by kernel_rfl) ?_
              refine HOps_end (by kernel_rfl) ?_
              exact J_mk (v25 != 0) hm (by kernel_rfl) (by kernel_rfl)

end Saw
end Go.SL
