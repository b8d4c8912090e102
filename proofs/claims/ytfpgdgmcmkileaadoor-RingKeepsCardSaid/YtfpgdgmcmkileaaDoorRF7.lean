import Derived.Test.YtfpgdgmcmkileaaDoorRBase
import Derived.Test.YtfpgdgmcmkileaaDoorRA5
import Derived.Test.YtfpgdgmcmkileaaDoorRA1
import Derived.Test.YtfpgdgmcmkileaaDoorRA4
import Derived.Test.YtfpgdgmcmkileaaDoorRA3
set_option linter.unusedVariables false
set_option linter.unusedSimpArgs false
namespace Go.SL
namespace Saw
open Go.Proofs
set_option maxHeartbeats 4000000

def law12_RingKeeps_x (r : Bool) : V := .v (.one (.val (.bool r)))

def law12_RingKeeps_o (r : Bool) : List (Nat × (Nat × O)) := []

theorem law12_RingKeeps_f (r : Bool) : Frozen (law12_RingKeeps_o r) := by
  intro i k o h
  unfold law12_RingKeeps_o at h
  cases h

def law12_RingKeeps_k2_S (x17 : Bool) : St :=
  { slots := [(6, .v (.one (.val (.bool x17))))], objs := [] }

def law12_RingKeeps_k3_S (x27 : Bool) : St :=
  { slots := [(6, .v (.one (.val (.bool x27))))], objs := [] }

def law12_RingKeeps_k6_S (a1 : Ring) (a2 : List Int) (a3 : Int) (v28 : Ring) (v30 : Ring) (x46 : Int) (x54 : Bool) : St :=
  { slots := [(2, .v (.one (.val (.int .i64 a3)))), (3, .v (.one (.bptr 1 0 0))), (7, .v (.one (.val (.int .i64 (imin (a2.getD 0 default) (a2.getD 1 default)))))), (9, .v (.one (.bptr 6 0 0))), (10, .v (.one (.bptr 7 0 0))), (11, .v (.one (.val (.int .i64 x46)))), (122, .v (.one (.val (.bool x54))))], objs := [(1, (0, .box 24 [.val (.int .i64 a1.Z), tl e_Reading default a1.Read])), (4, (0, .row 44 3 v28.Read.length (rowf e_Reading default v28.Read))), (5, (0, .row 44 3 v30.Read.length (rowf e_Reading default v30.Read))), (6, (0, .box 24 [.val (.int .i64 v28.Z), .own 4 0 3 v28.Read.length])), (7, (0, .box 24 [.val (.int .i64 v30.Z), .own 5 0 3 v30.Read.length]))] }

def law12_RingKeeps_L5_S (a1 : Ring) (a2 : List Int) (a3 : Int) (v28 : Ring) (v30 : Ring) (x46 : Int) : St :=
  { slots := [(2, .v (.one (.val (.int .i64 a3)))), (3, .v (.one (.bptr 1 0 0))), (7, .v (.one (.val (.int .i64 (imin (a2.getD 0 default) (a2.getD 1 default)))))), (9, .v (.one (.bptr 6 0 0))), (10, .v (.one (.bptr 7 0 0))), (11, .v (.one (.val (.int .i64 x46))))], objs := [(1, (0, .box 24 [.val (.int .i64 a1.Z), tl e_Reading default a1.Read])), (4, (0, .row 44 3 v28.Read.length (rowf e_Reading default v28.Read))), (5, (0, .row 44 3 v30.Read.length (rowf e_Reading default v30.Read))), (6, (0, .box 24 [.val (.int .i64 v28.Z), .own 4 0 3 v28.Read.length])), (7, (0, .box 24 [.val (.int .i64 v30.Z), .own 5 0 3 v30.Read.length]))] }

def law12_RingKeeps_L5_T (a1 : Ring) (a2 : List Int) (a3 : Int) (v28 : Ring) : St :=
  { slots := [(2, .v (.one (.val (.int .i64 a3)))), (3, .v (.one (.bptr 1 0 0))), (7, .v (.one (.val (.int .i64 (imin (a2.getD 0 default) (a2.getD 1 default)))))), (9, .v (.one (.bptr 6 0 0)))], objs := [(1, (0, .box 24 [.val (.int .i64 a1.Z), tl e_Reading default a1.Read])), (4, (0, .row 44 3 v28.Read.length (rowf e_Reading default v28.Read))), (6, (0, .box 24 [.val (.int .i64 v28.Z), .own 4 0 3 v28.Read.length]))] }

def law12_RingKeeps_k7_S (x73 : Bool) : St :=
  { slots := [(6, .v (.one (.val (.bool x73))))], objs := [] }

def law12_RingKeeps_k4_S (a1 : Ring) (a2 : List Int) (a3 : Int) (v28 : Ring) (v30 : Ring) (x42 : Bool) : St :=
  { slots := [(2, .v (.one (.val (.int .i64 a3)))), (3, .v (.one (.bptr 1 0 0))), (7, .v (.one (.val (.int .i64 (imin (a2.getD 0 default) (a2.getD 1 default)))))), (9, .v (.one (.bptr 6 0 0))), (10, .v (.one (.bptr 7 0 0))), (87, .v (.one (.val (.bool x42))))], objs := [(1, (0, .box 24 [.val (.int .i64 a1.Z), tl e_Reading default a1.Read])), (4, (0, .row 44 3 v28.Read.length (rowf e_Reading default v28.Read))), (5, (0, .row 44 3 v30.Read.length (rowf e_Reading default v30.Read))), (6, (0, .box 24 [.val (.int .i64 v28.Z), .own 4 0 3 v28.Read.length])), (7, (0, .box 24 [.val (.int .i64 v30.Z), .own 5 0 3 v30.Read.length]))] }

def law12_RingKeeps_k1_S (a1 : Ring) (a2 : List Int) (a3 : Int) (x9 : Bool) : St :=
  { slots := [(2, .v (.one (.val (.int .i64 a3)))), (3, .v (.one (.bptr 1 0 0))), (4, .v (.one (.bptr 2 0 0))), (20, .v (.one (.val (.bool x9))))], objs := [(1, (0, .box 24 [.val (.int .i64 a1.Z), tl e_Reading default a1.Read])), (2, (0, .box 42 [.val (.int .i64 (a2.getD 0 default)), .val (.int .i64 (a2.getD 1 default))]))] }

set_option maxRecDepth 100000 in
theorem law12_RingKeeps_L5_ok (w : World) (A : Nat → Prop) (hg : Globs globs w A) (a1 : Ring) (a2 : List Int) (a3 : Int) (v28 : Ring) (v30 : Ring) : ∀ (n : Nat) (x46 : Int) (res : Bool ⊕ Unit), law12_RingKeeps_L5 a1 v28 v30 n x46 = some res → HL ({ P := Tryd.prog, w0 := w, nt := 135, A := A, globs := globs, mixed := mixed, glob := hg } : Ctx) (nd Tryd.f7 [1, 1, 1, 1, 1, 1, 0, 1, 0, 0]) (loopQ 0 (fun o => law12_RingKeeps_L5_T a1 a2 a3 v28) (fun v st => RetQ Tryd.prog Tryd.f7 (law12_RingKeeps_x v) (law12_RingKeeps_o v) .ret st) res) n (law12_RingKeeps_L5_S a1 a2 a3 v28 v30 x46) := by
  intro n
  induction n with
  | zero =>
    intro x46 res hm
    cases hm
  | succ n ih =>
    intro x46 res hm
    refine HL_succ ?_
    refine R_seq (nd Tryd.f7 [1, 1, 1, 1, 1, 1, 0, 1, 0, 0, 0]) (nd Tryd.f7 [1, 1, 1, 1, 1, 1, 0, 1, 0, 0, 1]) (by kernel_rfl) ?_
    refine R_seq (nd Tryd.f7 [1, 1, 1, 1, 1, 1, 0, 1, 0, 0, 0, 0]) (nd Tryd.f7 [1, 1, 1, 1, 1, 1, 0, 1, 0, 0, 0, 1]) (by kernel_rfl) ?_
    refine R_region 10 (rg Tryd.f7 [1, 1, 1, 1, 1, 1, 0, 1, 0, 0, 0, 0]) (by kernel_rfl) ?_
    have k47 : opsOk 135 (rg Tryd.f7 [1, 1, 1, 1, 1, 1, 0, 1, 0, 0, 0, 0]) = true := by kernel_rfl
    refine P_op k47 (.v (.one (.val (.int .i64 x46)))) (by kernel_rfl) ?_
    refine P_op k47 (.v (.one (.bptr 6 0 1))) (by kernel_rfl) ?_
    refine P_op k47 (.v (.one (.own 4 0 3 v28.Read.length))) (by kernel_rfl) ?_
    refine P_op k47 (.v (.one (.val (.int .i64 ((v28.Read.length : Nat) : Int))))) (by kernel_rfl) ?_
    refine P_op k47 (.v (.one (.val (.bool (decide (x46 < ((v28.Read.length : Nat) : Int))))))) (by kernel_rfl) ?_
    refine HOps_end (by kernel_rfl) ?_
    refine R_cond (.tmp 92) (nd Tryd.f7 [1, 1, 1, 1, 1, 1, 0, 1, 0, 0, 0, 1, 0]) (nd Tryd.f7 [1, 1, 1, 1, 1, 1, 0, 1, 0, 0, 0, 1, 1]) (by kernel_rfl) (decide (x46 < ((v28.Read.length : Nat) : Int))) (by kernel_rfl) (fun b48 => ?_) (fun b48 => ?_)
    · replace hm := bif_t b48 hm
      refine R_skip (by kernel_rfl) ?_
      refine R_seq (nd Tryd.f7 [1, 1, 1, 1, 1, 1, 0, 1, 0, 0, 1, 0]) (nd Tryd.f7 [1, 1, 1, 1, 1, 1, 0, 1, 0, 0, 1, 1]) (by kernel_rfl) ?_
      refine R_block 1 (nd Tryd.f7 [1, 1, 1, 1, 1, 1, 0, 1, 0, 0, 1, 0, 0]) (by kernel_rfl) ?_
      refine R_join (ι := Bool) (nd Tryd.f7 [1, 1, 1, 1, 1, 1, 0, 1, 0, 0, 1, 0, 0, 0]) (nd Tryd.f7 [1, 1, 1, 1, 1, 1, 0, 1, 0, 0, 1, 0, 0, 1]) (by kernel_rfl) (fun p => law12_RingKeeps_k6_S a1 a2 a3 v28 v30 x46 p) (fun p => law12_RingKeeps_k6 x46 (law12_RingKeeps_L5 a1 v28 v30 n) p = some res) ?_ ?_
      · rintro x54 hm
        show H _ (law12_RingKeeps_k6_S a1 a2 a3 v28 v30 x46 x54) (nd Tryd.f7 [1, 1, 1, 1, 1, 1, 0, 1, 0, 0, 1, 0, 0, 1]) _
        refine R_cond (.tmp 122) (nd Tryd.f7 [1, 1, 1, 1, 1, 1, 0, 1, 0, 0, 1, 0, 0, 1, 0]) (nd Tryd.f7 [1, 1, 1, 1, 1, 1, 0, 1, 0, 0, 1, 0, 0, 1, 1]) (by kernel_rfl) x54 (by kernel_rfl) (fun b55 => ?_) (fun b55 => ?_)
        · replace hm := bif_t b55 hm
          refine R_seq (nd Tryd.f7 [1, 1, 1, 1, 1, 1, 0, 1, 0, 0, 1, 0, 0, 1, 0, 0]) (nd Tryd.f7 [1, 1, 1, 1, 1, 1, 0, 1, 0, 0, 1, 0, 0, 1, 0, 1]) (by kernel_rfl) ?_
          refine R_region 13 (rg Tryd.f7 [1, 1, 1, 1, 1, 1, 0, 1, 0, 0, 1, 0, 0, 1, 0, 0]) (by kernel_rfl) ?_
          have k56 : opsOk 135 (rg Tryd.f7 [1, 1, 1, 1, 1, 1, 0, 1, 0, 0, 1, 0, 0, 1, 0, 0]) = true := by kernel_rfl
          refine P_op k56 (.v (.one (.val (.bool false)))) (by kernel_rfl) ?_
          refine HOps_end (by kernel_rfl) ?_
          obtain rfl := Option.some.inj hm
          refine R_ret (by kernel_rfl) ?_
          refine L1_ret false ?_
          exact ret_mk (by kernel_rfl) (by kernel_rfl)
        · replace hm := bif_f b55 hm
          refine R_skip (by kernel_rfl) ?_
          refine R_region 11 (rg Tryd.f7 [1, 1, 1, 1, 1, 1, 0, 1, 0, 0, 1, 1]) (by kernel_rfl) ?_
          have k57 : opsOk 135 (rg Tryd.f7 [1, 1, 1, 1, 1, 1, 0, 1, 0, 0, 1, 1]) = true := by kernel_rfl
          refine P_op k57 (.v (.one (.val (.int .i64 x46)))) (by kernel_rfl) ?_
          refine P_op k57 (.v (.one (.val (.int .i64 (w64 (x46 + 1)))))) (by kernel_rfl) ?_
          refine P_op k57 (.v (.one (.val (.int .i64 (w64 (x46 + 1)))))) (by kernel_rfl) ?_
          refine HOps_end (by kernel_rfl) ?_
          exact HL_enter (law12_RingKeeps_L5_S a1 a2 a3 v28 v30 (w64 (x46 + 1))) (by kernel_rfl) (by kernel_rfl) (ih (w64 (x46 + 1)) _ hm)
      · obtain ⟨g49, hm⟩ := bif_n hm
        rcases Bool.eq_false_or_eq_true ((v28.Read.getD x46.toNat default).Ok) with b50 | b50
        · replace hm := bif_t b50 hm
          obtain ⟨g51, hm⟩ := bif_n hm
          rcases Bool.eq_false_or_eq_true (!(((((v28.Read.getD x46.toNat default).P).X == ((a1.Read.getD x46.toNat default).P).X) && ((((v28.Read.getD x46.toNat default).P).Y == ((a1.Read.getD x46.toNat default).P).Y) && true)) && (((v28.Read.getD x46.toNat default).Ok == (a1.Read.getD x46.toNat default).Ok) && true))) with b52 | b52
          · replace hm := bif_t b52 hm
            refine R_draw 12 (rg Tryd.f7 [1, 1, 1, 1, 1, 1, 0, 1, 0, 0, 1, 0, 0, 0]) (by kernel_rfl) [⟨true, .v (.one (.bptr 6 0 1)), [], [], [9], []⟩, ⟨true, .v (.one (.own 4 0 3 v28.Read.length)), [], [], [95], [6]⟩, ⟨true, .v (.one (.val (.int .i64 x46))), [], [], [11], []⟩, ⟨true, .v (.one (.rptr 4 0 3 x46.toNat 0)), [], [], [96, 97], []⟩, ⟨true, .v (.one (.rptr 4 0 3 x46.toNat 2)), [], [], [98], []⟩, ⟨true, .v (.one (.val (.bool ((v28.Read.getD x46.toNat default).Ok)))), [], [], [99], [4]⟩, ⟨true, boolV true, [], [], [100], []⟩, ⟨true, .v (.one (.bptr 6 0 1)), [], [], [9, 101], []⟩, ⟨true, .v (.one (.own 4 0 3 v28.Read.length)), [], [], [101, 102], [6]⟩, ⟨true, .v (.one (.val (.int .i64 x46))), [], [], [11, 101], []⟩, ⟨true, .v (.one (.rptr 4 0 3 x46.toNat 0)), [], [], [101, 103, 104], []⟩, ⟨true, .v (.agg [.val (.int .i64 (((v28.Read.getD x46.toNat default).P).X)), .val (.int .i64 (((v28.Read.getD x46.toNat default).P).Y)), .val (.bool ((v28.Read.getD x46.toNat default).Ok))]), [], [], [101, 105], [4]⟩, ⟨true, .v (.one (.bptr 1 0 1)), [], [], [3, 101], []⟩, ⟨true, .v (.one (tl e_Reading default a1.Read)), [], [], [101, 107], [1]⟩, ⟨true, .v (.one (.val (.int .i64 x46))), [], [], [11, 101], []⟩, ⟨true, .v (.one (.lptr (e_Reading (a1.Read.getD x46.toNat default)))), [], [], [101, 108, 109], []⟩, ⟨true, .v (.agg [.val (.int .i64 (((a1.Read.getD x46.toNat default).P).X)), .val (.int .i64 (((a1.Read.getD x46.toNat default).P).Y)), .val (.bool ((a1.Read.getD x46.toNat default).Ok))]), [], [], [101, 110], []⟩, ⟨true, .v (.one (.val (.bool (!(((((v28.Read.getD x46.toNat default).P).X == ((a1.Read.getD x46.toNat default).P).X) && ((((v28.Read.getD x46.toNat default).P).Y == ((a1.Read.getD x46.toNat default).P).Y) && true)) && (((v28.Read.getD x46.toNat default).Ok == (a1.Read.getD x46.toNat default).Ok) && true)))))), [], [], [101, 106, 111], []⟩, ⟨true, boolV true, [], [], [101, 112], []⟩, ⟨false, .undef, [], [], [113], []⟩, ⟨false, .undef, [], [], [113], []⟩, ⟨false, .undef, [], [], [113], []⟩, ⟨false, .undef, [], [], [113], []⟩, ⟨false, .undef, [], [], [113], []⟩, ⟨false, .undef, [], [], [113], []⟩, ⟨false, .undef, [], [], [113], []⟩, ⟨true, .v (.one (.val (.bool true))), [], [], [101, 113, 120], []⟩, ⟨true, .v (.one (.val (.bool true))), [], [], [101, 121], []⟩] [0, 1, 0, 7, 15, 31, 63, 127, 255, 127, 1023, 2047, 127, 4223, 127, 28799, 61567, 131071, 262143, 524287, 1048575, 524287, 4194303, 8388607, 16777215, 33554431, 67108863, 134217727] (by kernel_rfl) (by kernel_rfl) (by kernel_rfl) (by kernel_rfl) (by kernel_rfl) (by kernel_rfl) ?_ ?_
            · refine A_pure (.v (.one (.bptr 6 0 1))) [9] [] (True) (by kernel_rfl) trivial ?_
              refine A_pure (.v (.one (.own 4 0 3 v28.Read.length))) [95] [6] (True) (by kernel_rfl) trivial ?_
              refine A_pure (.v (.one (.val (.int .i64 x46)))) [11] [] (True) (by kernel_rfl) trivial ?_
              refine A_pure (.v (.one (.rptr 4 0 3 x46.toNat 0))) [96, 97] [] (0 ≤ x46 ∧ x46 < ((v28.Read.length : Nat) : Int)) (by kernel_rfl) (inb_of g49) ?_
              refine A_pure (.v (.one (.rptr 4 0 3 x46.toNat 2))) [98] [] (True) (by kernel_rfl) trivial ?_
              refine A_pure (.v (.one (.val (.bool ((v28.Read.getD x46.toNat default).Ok))))) [99] [4] (x46.toNat < v28.Read.length) (by kernel_rfl) (toNat_lt (inb_of g49)) ?_
              refine A_pureE (boolV true) (boolV ((v28.Read.getD x46.toNat default).Ok)) (congrArg boolV b50) [100] [] (True) (by kernel_rfl) trivial ?_
              refine A_pure (.v (.one (.bptr 6 0 1))) [9, 101] [] (True) (by kernel_rfl) trivial ?_
              refine A_pure (.v (.one (.own 4 0 3 v28.Read.length))) [101, 102] [6] (True) (by kernel_rfl) trivial ?_
              refine A_pure (.v (.one (.val (.int .i64 x46)))) [11, 101] [] (True) (by kernel_rfl) trivial ?_
              refine A_pure (.v (.one (.rptr 4 0 3 x46.toNat 0))) [101, 103, 104] [] (0 ≤ x46 ∧ x46 < ((v28.Read.length : Nat) : Int)) (by kernel_rfl) (inb_of g49) ?_
              refine A_pure (.v (.agg [.val (.int .i64 (((v28.Read.getD x46.toNat default).P).X)), .val (.int .i64 (((v28.Read.getD x46.toNat default).P).Y)), .val (.bool ((v28.Read.getD x46.toNat default).Ok))])) [101, 105] [4] (x46.toNat < v28.Read.length) (by kernel_rfl) (toNat_lt (inb_of g49)) ?_
              refine A_pure (.v (.one (.bptr 1 0 1))) [3, 101] [] (True) (by kernel_rfl) trivial ?_
              refine A_pure (.v (.one (tl e_Reading default a1.Read))) [101, 107] [1] (True) (by kernel_rfl) trivial ?_
              refine A_pure (.v (.one (.val (.int .i64 x46)))) [11, 101] [] (True) (by kernel_rfl) trivial ?_
              refine A_pure (.v (.one (.lptr (e_Reading (a1.Read.getD x46.toNat default))))) [101, 108, 109] [] (0 ≤ x46 ∧ x46 < ((a1.Read.length : Nat) : Int)) (by kernel_rfl) (inb_of g51) ?_
              refine A_pure (.v (.agg [.val (.int .i64 (((a1.Read.getD x46.toNat default).P).X)), .val (.int .i64 (((a1.Read.getD x46.toNat default).P).Y)), .val (.bool ((a1.Read.getD x46.toNat default).Ok))])) [101, 110] [] (True) (by kernel_rfl) trivial ?_
              refine A_pure (.v (.one (.val (.bool (!(((((v28.Read.getD x46.toNat default).P).X == ((a1.Read.getD x46.toNat default).P).X) && ((((v28.Read.getD x46.toNat default).P).Y == ((a1.Read.getD x46.toNat default).P).Y) && true)) && (((v28.Read.getD x46.toNat default).Ok == (a1.Read.getD x46.toNat default).Ok) && true))))))) [101, 106, 111] [] (True) (by kernel_rfl) trivial ?_
              refine A_pureE (boolV true) (boolV (!(((((v28.Read.getD x46.toNat default).P).X == ((a1.Read.getD x46.toNat default).P).X) && ((((v28.Read.getD x46.toNat default).P).Y == ((a1.Read.getD x46.toNat default).P).Y) && true)) && (((v28.Read.getD x46.toNat default).Ok == (a1.Read.getD x46.toNat default).Ok) && true)))) (congrArg boolV b52) [101, 112] [] (True) (by kernel_rfl) trivial ?_
              refine A_skip [113] (by kernel_rfl) ?_
              refine A_skip [113] (by kernel_rfl) ?_
              refine A_skip [113] (by kernel_rfl) ?_
              refine A_skip [113] (by kernel_rfl) ?_
              refine A_skip [113] (by kernel_rfl) ?_
              refine A_skip [113] (by kernel_rfl) ?_
              refine A_skip [113] (by kernel_rfl) ?_
              refine A_pure (.v (.one (.val (.bool true)))) [101, 113, 120] [] (True) (by kernel_rfl) trivial ?_
              refine A_pure (.v (.one (.val (.bool true)))) [101, 121] [] (True) (by kernel_rfl) trivial ?_
              exact A_end
            · exact J_mk (true) hm (by kernel_rfl) (by kernel_rfl)
          · replace hm := bif_f b52 hm
            obtain ⟨g53, hm⟩ := bif_n hm
            refine R_draw 12 (rg Tryd.f7 [1, 1, 1, 1, 1, 1, 0, 1, 0, 0, 1, 0, 0, 0]) (by kernel_rfl) [⟨true, .v (.one (.bptr 6 0 1)), [], [], [9], []⟩, ⟨true, .v (.one (.own 4 0 3 v28.Read.length)), [], [], [95], [6]⟩, ⟨true, .v (.one (.val (.int .i64 x46))), [], [], [11], []⟩, ⟨true, .v (.one (.rptr 4 0 3 x46.toNat 0)), [], [], [96, 97], []⟩, ⟨true, .v (.one (.rptr 4 0 3 x46.toNat 2)), [], [], [98], []⟩, ⟨true, .v (.one (.val (.bool ((v28.Read.getD x46.toNat default).Ok)))), [], [], [99], [4]⟩, ⟨true, boolV true, [], [], [100], []⟩, ⟨true, .v (.one (.bptr 6 0 1)), [], [], [9, 101], []⟩, ⟨true, .v (.one (.own 4 0 3 v28.Read.length)), [], [], [101, 102], [6]⟩, ⟨true, .v (.one (.val (.int .i64 x46))), [], [], [11, 101], []⟩, ⟨true, .v (.one (.rptr 4 0 3 x46.toNat 0)), [], [], [101, 103, 104], []⟩, ⟨true, .v (.agg [.val (.int .i64 (((v28.Read.getD x46.toNat default).P).X)), .val (.int .i64 (((v28.Read.getD x46.toNat default).P).Y)), .val (.bool ((v28.Read.getD x46.toNat default).Ok))]), [], [], [101, 105], [4]⟩, ⟨true, .v (.one (.bptr 1 0 1)), [], [], [3, 101], []⟩, ⟨true, .v (.one (tl e_Reading default a1.Read)), [], [], [101, 107], [1]⟩, ⟨true, .v (.one (.val (.int .i64 x46))), [], [], [11, 101], []⟩, ⟨true, .v (.one (.lptr (e_Reading (a1.Read.getD x46.toNat default)))), [], [], [101, 108, 109], []⟩, ⟨true, .v (.agg [.val (.int .i64 (((a1.Read.getD x46.toNat default).P).X)), .val (.int .i64 (((a1.Read.getD x46.toNat default).P).Y)), .val (.bool ((a1.Read.getD x46.toNat default).Ok))]), [], [], [101, 110], []⟩, ⟨true, .v (.one (.val (.bool (!(((((v28.Read.getD x46.toNat default).P).X == ((a1.Read.getD x46.toNat default).P).X) && ((((v28.Read.getD x46.toNat default).P).Y == ((a1.Read.getD x46.toNat default).P).Y) && true)) && (((v28.Read.getD x46.toNat default).Ok == (a1.Read.getD x46.toNat default).Ok) && true)))))), [], [], [101, 106, 111], []⟩, ⟨true, boolV false, [], [], [101, 112], []⟩, ⟨true, .v (.one (.bptr 7 0 1)), [], [], [10, 113], []⟩, ⟨true, .v (.one (.own 5 0 3 v30.Read.length)), [], [], [113, 114], [7]⟩, ⟨true, .v (.one (.val (.int .i64 x46))), [], [], [11, 113], []⟩, ⟨true, .v (.one (.rptr 5 0 3 x46.toNat 0)), [], [], [113, 115, 116], []⟩, ⟨true, .v (.one (.rptr 5 0 3 x46.toNat 2)), [], [], [113, 117], []⟩, ⟨true, .v (.one (.val (.bool ((v30.Read.getD x46.toNat default).Ok)))), [], [], [113, 118], [5]⟩, ⟨true, .v (.one (.val (.bool (!((v30.Read.getD x46.toNat default).Ok))))), [], [], [113, 119], []⟩, ⟨true, .v (.one (.val (.bool (!((v30.Read.getD x46.toNat default).Ok))))), [], [], [101, 113, 120], []⟩, ⟨true, .v (.one (.val (.bool (!((v30.Read.getD x46.toNat default).Ok))))), [], [], [101, 121], []⟩] [0, 1, 0, 7, 15, 31, 63, 127, 255, 127, 1023, 2047, 127, 4223, 127, 28799, 61567, 131071, 262143, 524287, 1048575, 524287, 4194303, 8388607, 16777215, 33554431, 67108863, 134217727] (by kernel_rfl) (by kernel_rfl) (by kernel_rfl) (by kernel_rfl) (by kernel_rfl) (by kernel_rfl) ?_ ?_
            · refine A_pure (.v (.one (.bptr 6 0 1))) [9] [] (True) (by kernel_rfl) trivial ?_
              refine A_pure (.v (.one (.own 4 0 3 v28.Read.length))) [95] [6] (True) (by kernel_rfl) trivial ?_
              refine A_pure (.v (.one (.val (.int .i64 x46)))) [11] [] (True) (by kernel_rfl) trivial ?_
              refine A_pure (.v (.one (.rptr 4 0 3 x46.toNat 0))) [96, 97] [] (0 ≤ x46 ∧ x46 < ((v28.Read.length : Nat) : Int)) (by kernel_rfl) (inb_of g49) ?_
              refine A_pure (.v (.one (.rptr 4 0 3 x46.toNat 2))) [98] [] (True) (by kernel_rfl) trivial ?_
              refine A_pure (.v (.one (.val (.bool ((v28.Read.getD x46.toNat default).Ok))))) [99] [4] (x46.toNat < v28.Read.length) (by kernel_rfl) (toNat_lt (inb_of g49)) ?_
              refine A_pureE (boolV true) (boolV ((v28.Read.getD x46.toNat default).Ok)) (congrArg boolV b50) [100] [] (True) (by kernel_rfl) trivial ?_
              refine A_pure (.v (.one (.bptr 6 0 1))) [9, 101] [] (True) (by kernel_rfl) trivial ?_
              refine A_pure (.v (.one (.own 4 0 3 v28.Read.length))) [101, 102] [6] (True) (by kernel_rfl) trivial ?_
              refine A_pure (.v (.one (.val (.int .i64 x46)))) [11, 101] [] (True) (by kernel_rfl) trivial ?_
              refine A_pure (.v (.one (.rptr 4 0 3 x46.toNat 0))) [101, 103, 104] [] (0 ≤ x46 ∧ x46 < ((v28.Read.length : Nat) : Int)) (by kernel_rfl) (inb_of g49) ?_
              refine A_pure (.v (.agg [.val (.int .i64 (((v28.Read.getD x46.toNat default).P).X)), .val (.int .i64 (((v28.Read.getD x46.toNat default).P).Y)), .val (.bool ((v28.Read.getD x46.toNat default).Ok))])) [101, 105] [4] (x46.toNat < v28.Read.length) (by kernel_rfl) (toNat_lt (inb_of g49)) ?_
              refine A_pure (.v (.one (.bptr 1 0 1))) [3, 101] [] (True) (by kernel_rfl) trivial ?_
              refine A_pure (.v (.one (tl e_Reading default a1.Read))) [101, 107] [1] (True) (by kernel_rfl) trivial ?_
              refine A_pure (.v (.one (.val (.int .i64 x46)))) [11, 101] [] (True) (by kernel_rfl) trivial ?_
              refine A_pure (.v (.one (.lptr (e_Reading (a1.Read.getD x46.toNat default))))) [101, 108, 109] [] (0 ≤ x46 ∧ x46 < ((a1.Read.length : Nat) : Int)) (by kernel_rfl) (inb_of g51) ?_
              refine A_pure (.v (.agg [.val (.int .i64 (((a1.Read.getD x46.toNat default).P).X)), .val (.int .i64 (((a1.Read.getD x46.toNat default).P).Y)), .val (.bool ((a1.Read.getD x46.toNat default).Ok))])) [101, 110] [] (True) (by kernel_rfl) trivial ?_
              refine A_pure (.v (.one (.val (.bool (!(((((v28.Read.getD x46.toNat default).P).X == ((a1.Read.getD x46.toNat default).P).X) && ((((v28.Read.getD x46.toNat default).P).Y == ((a1.Read.getD x46.toNat default).P).Y) && true)) && (((v28.Read.getD x46.toNat default).Ok == (a1.Read.getD x46.toNat default).Ok) && true))))))) [101, 106, 111] [] (True) (by kernel_rfl) trivial ?_
              refine A_pureE (boolV false) (boolV (!(((((v28.Read.getD x46.toNat default).P).X == ((a1.Read.getD x46.toNat default).P).X) && ((((v28.Read.getD x46.toNat default).P).Y == ((a1.Read.getD x46.toNat default).P).Y) && true)) && (((v28.Read.getD x46.toNat default).Ok == (a1.Read.getD x46.toNat default).Ok) && true)))) (congrArg boolV b52) [101, 112] [] (True) (by kernel_rfl) trivial ?_
              refine A_pure (.v (.one (.bptr 7 0 1))) [10, 113] [] (True) (by kernel_rfl) trivial ?_
              refine A_pure (.v (.one (.own 5 0 3 v30.Read.length))) [113, 114] [7] (True) (by kernel_rfl) trivial ?_
              refine A_pure (.v (.one (.val (.int .i64 x46)))) [11, 113] [] (True) (by kernel_rfl) trivial ?_
              refine A_pure (.v (.one (.rptr 5 0 3 x46.toNat 0))) [113, 115, 116] [] (0 ≤ x46 ∧ x46 < ((v30.Read.length : Nat) : Int)) (by kernel_rfl) (inb_of g53) ?_
              refine A_pure (.v (.one (.rptr 5 0 3 x46.toNat 2))) [113, 117] [] (True) (by kernel_rfl) trivial ?_
              refine A_pure (.v (.one (.val (.bool ((v30.Read.getD x46.toNat default).Ok))))) [113, 118] [5] (x46.toNat < v30.Read.length) (by kernel_rfl) (toNat_lt (inb_of g53)) ?_
              refine A_pure (.v (.one (.val (.bool (!((v30.Read.getD x46.toNat default).Ok)))))) [113, 119] [] (True) (by kernel_rfl) trivial ?_
              refine A_pure (.v (.one (.val (.bool (!((v30.Read.getD x46.toNat default).Ok)))))) [101, 113, 120] [] (True) (by kernel_rfl) trivial ?_
              refine A_pure (.v (.one (.val (.bool (!((v30.Read.getD x46.toNat default).Ok)))))) [101, 121] [] (True) (by kernel_rfl) trivial ?_
              exact A_end
            · exact J_mk (!((v30.Read.getD x46.toNat default).Ok)) hm (by kernel_rfl) (by kernel_rfl)
        · replace hm := bif_f b50 hm
          refine R_draw 12 (rg Tryd.f7 [1, 1, 1, 1, 1, 1, 0, 1, 0, 0, 1, 0, 0, 0]) (by kernel_rfl) [⟨true, .v (.one (.bptr 6 0 1)), [], [], [9], []⟩, ⟨true, .v (.one (.own 4 0 3 v28.Read.length)), [], [], [95], [6]⟩, ⟨true, .v (.one (.val (.int .i64 x46))), [], [], [11], []⟩, ⟨true, .v (.one (.rptr 4 0 3 x46.toNat 0)), [], [], [96, 97], []⟩, ⟨true, .v (.one (.rptr 4 0 3 x46.toNat 2)), [], [], [98], []⟩, ⟨true, .v (.one (.val (.bool ((v28.Read.getD x46.toNat default).Ok)))), [], [], [99], [4]⟩, ⟨true, boolV false, [], [], [100], []⟩, ⟨false, .undef, [], [], [101], []⟩, ⟨false, .undef, [], [], [101], []⟩, ⟨false, .undef, [], [], [101], []⟩, ⟨false, .undef, [], [], [101], []⟩, ⟨false, .undef, [], [], [101], []⟩, ⟨false, .undef, [], [], [101], []⟩, ⟨false, .undef, [], [], [101], []⟩, ⟨false, .undef, [], [], [101], []⟩, ⟨false, .undef, [], [], [101], []⟩, ⟨false, .undef, [], [], [101], []⟩, ⟨false, .undef, [], [], [101], []⟩, ⟨false, .undef, [], [], [101], []⟩, ⟨false, .undef, [], [], [113], []⟩, ⟨false, .undef, [], [], [113], []⟩, ⟨false, .undef, [], [], [113], []⟩, ⟨false, .undef, [], [], [113], []⟩, ⟨false, .undef, [], [], [113], []⟩, ⟨false, .undef, [], [], [113], []⟩, ⟨false, .undef, [], [], [113], []⟩, ⟨false, .undef, [], [], [101], []⟩, ⟨true, .v (.one (.val (.bool false))), [], [], [101, 121], []⟩] [0, 1, 0, 7, 15, 31, 63, 127, 255, 127, 1023, 2047, 127, 4223, 127, 28799, 61567, 131071, 262143, 524287, 1048575, 524287, 4194303, 8388607, 16777215, 33554431, 67108863, 134217727] (by kernel_rfl) (by kernel_rfl) (by kernel_rfl) (by kernel_rfl) (by kernel_rfl) (by kernel_rfl) ?_ ?_
          · refine A_pure (.v (.one (.bptr 6 0 1))) [9] [] (True) (by kernel_rfl) trivial ?_
            refine A_pure (.v (.one (.own 4 0 3 v28.Read.length))) [95] [6] (True) (by kernel_rfl) trivial ?_
            refine A_pure (.v (.one (.val (.int .i64 x46)))) [11] [] (True) (by kernel_rfl) trivial ?_
            refine A_pure (.v (.one (.rptr 4 0 3 x46.toNat 0))) [96, 97] [] (0 ≤ x46 ∧ x46 < ((v28.Read.length : Nat) : Int)) (by kernel_rfl) (inb_of g49) ?_
            refine A_pure (.v (.one (.rptr 4 0 3 x46.toNat 2))) [98] [] (True) (by kernel_rfl) trivial ?_
            refine A_pure (.v (.one (.val (.bool ((v28.Read.getD x46.toNat default).Ok))))) [99] [4] (x46.toNat < v28.Read.length) (by kernel_rfl) (toNat_lt (inb_of g49)) ?_
            refine A_pureE (boolV false) (boolV ((v28.Read.getD x46.toNat default).Ok)) (congrArg boolV b50) [100] [] (True) (by kernel_rfl) trivial ?_
            refine A_skip [101] (by kernel_rfl) ?_
            refine A_skip [101] (by kernel_rfl) ?_
            refine A_skip [101] (by kernel_rfl) ?_
            refine A_skip [101] (by kernel_rfl) ?_
            refine A_skip [101] (by kernel_rfl) ?_
            refine A_skip [101] (by kernel_rfl) ?_
            refine A_skip [101] (by kernel_rfl) ?_
            refine A_skip [101] (by kernel_rfl) ?_
            refine A_skip [101] (by kernel_rfl) ?_
            refine A_skip [101] (by kernel_rfl) ?_
            refine A_skip [101] (by kernel_rfl) ?_
            refine A_skip [101] (by kernel_rfl) ?_
            refine A_skip [113] (by kernel_rfl) ?_
            refine A_skip [113] (by kernel_rfl) ?_
            refine A_skip [113] (by kernel_rfl) ?_
            refine A_skip [113] (by kernel_rfl) ?_
            refine A_skip [113] (by kernel_rfl) ?_
            refine A_skip [113] (by kernel_rfl) ?_
            refine A_skip [113] (by kernel_rfl) ?_
            refine A_skip [101] (by kernel_rfl) ?_
            refine A_pure (.v (.one (.val (.bool false)))) [101, 121] [] (True) (by kernel_rfl) trivial ?_
            exact A_end
          · exact J_mk (false) hm (by kernel_rfl) (by kernel_rfl)
    · replace hm := bif_f b48 hm
      refine R_exit 0 (by kernel_rfl) ?_
      obtain rfl := Option.some.inj hm
      exact L1_mk () (by kernel_rfl) (by kernel_rfl)

set_option maxRecDepth 100000 in
theorem law12_RingKeeps_ok (a1 : Ring) (a2 : List Int) (a3 : Int) (r : Bool) (hm : law12_RingKeeps a1 a2 a3 = some r) : Ct Tryd.prog globs 7 [.agg [.val (.int .i64 a1.Z), tl e_Reading default a1.Read], .agg [.val (.int .i64 (a2.getD 0 default)), .val (.int .i64 (a2.getD 1 default))], .one (.val (.int .i64 a3))] (law12_RingKeeps_x r) (law12_RingKeeps_o r) := by
  unfold law12_RingKeeps at hm
  refine Ct_of_H (fn := Tryd.f7) (c := nd Tryd.f7 []) mixed (by kernel_rfl) (by kernel_rfl) (by kernel_rfl) fun w A hg => ?_
  show H ({ P := Tryd.prog, w0 := w, nt := 135, A := A, globs := globs, mixed := mixed, glob := hg } : Ctx) _ _ _
  refine R_seq (nd Tryd.f7 [0]) (nd Tryd.f7 [1]) (by kernel_rfl) ?_
  refine R_region 0 (rg Tryd.f7 [0]) (by kernel_rfl) ?_
  have k4 : opsOk 135 (rg Tryd.f7 [0]) = true := by kernel_rfl
  refine P_step k4 ([(1, 0)]) ([(1, (0, .box 24 [.val (.int .i64 a1.Z), tl e_Reading default a1.Read]))]) (.v (.one (.bptr 1 0 0))) (by kernel_rfl) (Step_box 24 (.tmp 0) 1 0 (.agg [.val (.int .i64 a1.Z), tl e_Reading default a1.Read]) (by kernel_rfl) (by kernel_rfl) (by kernel_rfl)) ?_
  refine P_step k4 ([(2, 0)]) ([(2, (0, .box 42 [.val (.int .i64 (a2.getD 0 default)), .val (.int .i64 (a2.getD 1 default))]))]) (.v (.one (.bptr 2 0 0))) (by kernel_rfl) (Step_box 42 (.tmp 1) 2 0 (.agg [.val (.int .i64 (a2.getD 0 default)), .val (.int .i64 (a2.getD 1 default))]) (by kernel_rfl) (by kernel_rfl) (by kernel_rfl)) ?_
  refine P_op k4 (.v (.one (.val (.bool false)))) (by kernel_rfl) ?_
  refine HOps_end (by kernel_rfl) ?_
  refine R_seq (nd Tryd.f7 [1, 0]) (nd Tryd.f7 [1, 1]) (by kernel_rfl) ?_
  refine R_join (ι := Bool) (nd Tryd.f7 [1, 0, 0]) (nd Tryd.f7 [1, 0, 1]) (by kernel_rfl) (fun p => law12_RingKeeps_k1_S a1 a2 a3 p) (fun p => law12_RingKeeps_k1 a1 a2 a3 p = some r) ?_ ?_
  · rintro x9 hm
    show H _ (law12_RingKeeps_k1_S a1 a2 a3 x9) (nd Tryd.f7 [1, 0, 1]) _
    refine R_cond (.tmp 20) (nd Tryd.f7 [1, 0, 1, 0]) (nd Tryd.f7 [1, 0, 1, 1]) (by kernel_rfl) x9 (by kernel_rfl) (fun b10 => ?_) (fun b10 => ?_)
    · replace hm := bif_t b10 hm
      refine R_join (ι := Bool) (nd Tryd.f7 [1, 0, 1, 0, 0]) (nd Tryd.f7 [1, 0, 1, 0, 1]) (by kernel_rfl) (fun p => law12_RingKeeps_k2_S p) (fun p => law12_RingKeeps_k2 p = some r) ?_ ?_
      · rintro x17 hm
        show H _ (law12_RingKeeps_k2_S x17) (nd Tryd.f7 [1, 0, 1, 0, 1]) _
        obtain rfl := Option.some.inj hm
        refine R_ret (by kernel_rfl) ?_
        exact ret_mk (by kernel_rfl) (by kernel_rfl)
      · refine R_region 2 (rg Tryd.f7 [1, 0, 1, 0, 0]) (by kernel_rfl) ?_
        have k11 : opsOk 135 (rg Tryd.f7 [1, 0, 1, 0, 0]) = true := by kernel_rfl
        refine P_op k11 (.v (.agg [.val (.int .i64 a1.Z), tl e_Reading default a1.Read])) (by kernel_rfl) ?_
        obtain ⟨v12, h13, hm⟩ := bind_s hm
        refine P_step k11 (obNv 3 (ring_Check_o v12)) (obSh 3 (ring_Check_o v12)) ((ring_Check_x v12).sh 3) (by kernel_rfl) (Step_call (x := ring_Check_x v12) (ob := ring_Check_o v12) (f := 14) (args := [(.tmp 21)]) (fn := Tryd.f14) (ys := [.agg [.val (.int .i64 a1.Z), tl e_Reading default a1.Read]]) 3 (by kernel_rfl) (by kernel_rfl) (by kernel_rfl) (by kernel_rfl) (by kernel_rfl) (by kernel_rfl) rfl (ring_Check_ok a1 v12 h13) (by kernel_rfl) (by kernel_rfl)) ?_
        refine P_op k11 (.v (.one (.val (.bool (v12 != 0))))) (by kernel_rfl) ?_
        refine P_op k11 (.v (.one (.val (.bool (v12 != 0))))) (by kernel_rfl) ?_
        refine HOps_bool 24 (v12 != 0) (by kernel_rfl) (fun b14 => ?_) (fun b14 => ?_)
        · replace hm := bif_t b14 hm
          obtain ⟨v15, h16, hm⟩ := bind_s hm
          refine P_step k11 (obNv 3 (law12_awake_o v15)) (obSh 3 (law12_awake_o v15)) ((law12_awake_x v15).sh 3) (by kernel_rfl) (Step_call (x := law12_awake_x v15) (ob := law12_awake_o v15) (f := 11) (args := []) (fn := Tryd.f11) (ys := []) 3 (by kernel_rfl) (by kernel_rfl) (by kernel_rfl) (by kernel_rfl) (by kernel_rfl) (by kernel_rfl) rfl (law12_awake_ok v15 h16) (by kernel_rfl) (by kernel_rfl)) ?_
          refine P_op k11 (.v (.one (.val (.bool v15)))) (by kernel_rfl) ?_
          refine P_op k11 (.v (.one (.val (.bool v15)))) (by kernel_rfl) ?_
          refine HOps_end (by kernel_rfl) ?_
          exact J_mk (v15) hm (by kernel_rfl) (by kernel_rfl)
        · replace hm := bif_f b14 hm
          refine P_skip k11 (by kernel_rfl) ?_
          refine P_op k11 (.v (.one (.val (.bool false)))) (by kernel_rfl) ?_
          refine P_op k11 (.v (.one (.val (.bool false)))) (by kernel_rfl) ?_
          refine HOps_end (by kernel_rfl) ?_
          exact J_mk (false) hm (by kernel_rfl) (by kernel_rfl)
    · replace hm := bif_f b10 hm
      refine R_skip (by kernel_rfl) ?_
      refine R_seq (nd Tryd.f7 [1, 1, 0]) (nd Tryd.f7 [1, 1, 1]) (by kernel_rfl) ?_
      refine R_draw 3 (rg Tryd.f7 [1, 1, 0]) (by kernel_rfl) [⟨true, .v (.one (.bptr 2 0 0)), [], [], [4], []⟩, ⟨true, .v (.one (.val (.int .i64 (a2.getD 0 default)))), [], [], [27], [2]⟩, ⟨true, .v (.one (.bptr 2 0 1)), [], [], [4], []⟩, ⟨true, .v (.one (.val (.int .i64 (a2.getD 1 default)))), [], [], [29], [2]⟩, ⟨true, .v (.one (.val (.int .i64 (imin (a2.getD 0 default) (a2.getD 1 default))))), [], [], [28, 30], []⟩, ⟨true, .v (.one (.bptr 2 0 0)), [], [], [4], []⟩, ⟨true, .v (.one (.val (.int .i64 (a2.getD 0 default)))), [], [], [32], [2]⟩, ⟨true, .v (.one (.bptr 2 0 1)), [], [], [4], []⟩, ⟨true, .v (.one (.val (.int .i64 (a2.getD 1 default)))), [], [], [34], [2]⟩, ⟨true, .v (.one (.val (.int .i64 (imax (a2.getD 0 default) (a2.getD 1 default))))), [], [], [33, 35], []⟩, ⟨true, .v (.one (.val (.int .i64 (imin (a2.getD 0 default) (a2.getD 1 default))))), [], [], [31], []⟩, ⟨true, .v (.one (.val (.int .i64 (imax (a2.getD 0 default) (a2.getD 1 default))))), [], [], [36], []⟩] [0, 1, 0, 4, 15, 0, 32, 0, 128, 480, 31, 2047] (by kernel_rfl) (by kernel_rfl) (by kernel_rfl) (by kernel_rfl) (by kernel_rfl) (by kernel_rfl) ?_ ?_
      · refine A_pure (.v (.one (.bptr 2 0 0))) [4] [] (0 ≤ (0 : Int) ∧ (0 : Int) < ((2 : Nat) : Int)) (by kernel_rfl) (by decide) ?_
        refine A_pure (.v (.one (.val (.int .i64 (a2.getD 0 default))))) [27] [2] (True) (by kernel_rfl) trivial ?_
        refine A_pure (.v (.one (.bptr 2 0 1))) [4] [] (0 ≤ (1 : Int) ∧ (1 : Int) < ((2 : Nat) : Int)) (by kernel_rfl) (by decide) ?_
        refine A_pure (.v (.one (.val (.int .i64 (a2.getD 1 default))))) [29] [2] (True) (by kernel_rfl) trivial ?_
        refine A_pure (.v (.one (.val (.int .i64 (imin (a2.getD 0 default) (a2.getD 1 default)))))) [28, 30] [] (True) (by kernel_rfl) trivial ?_
        refine A_pure (.v (.one (.bptr 2 0 0))) [4] [] (0 ≤ (0 : Int) ∧ (0 : Int) < ((2 : Nat) : Int)) (by kernel_rfl) (by decide) ?_
        refine A_pure (.v (.one (.val (.int .i64 (a2.getD 0 default))))) [32] [2] (True) (by kernel_rfl) trivial ?_
        refine A_pure (.v (.one (.bptr 2 0 1))) [4] [] (0 ≤ (1 : Int) ∧ (1 : Int) < ((2 : Nat) : Int)) (by kernel_rfl) (by decide) ?_
        refine A_pure (.v (.one (.val (.int .i64 (a2.getD 1 default))))) [34] [2] (True) (by kernel_rfl) trivial ?_
        refine A_pure (.v (.one (.val (.int .i64 (imax (a2.getD 0 default) (a2.getD 1 default)))))) [33, 35] [] (True) (by kernel_rfl) trivial ?_
        refine A_pure (.v (.one (.val (.int .i64 (imin (a2.getD 0 default) (a2.getD 1 default)))))) [31] [] (True) (by kernel_rfl) trivial ?_
        refine A_pure (.v (.one (.val (.int .i64 (imax (a2.getD 0 default) (a2.getD 1 default)))))) [36] [] (True) (by kernel_rfl) trivial ?_
        exact A_end
      · refine R_seq (nd Tryd.f7 [1, 1, 1, 0]) (nd Tryd.f7 [1, 1, 1, 1]) (by kernel_rfl) ?_
        refine R_seq (nd Tryd.f7 [1, 1, 1, 0, 0]) (nd Tryd.f7 [1, 1, 1, 0, 1]) (by kernel_rfl) ?_
        refine R_region 4 (rg Tryd.f7 [1, 1, 1, 0, 0]) (by kernel_rfl) ?_
        have k18 : opsOk 135 (rg Tryd.f7 [1, 1, 1, 0, 0]) = true := by kernel_rfl
        refine P_op k18 (.v (.one (.val (.int .i64 (imin (a2.getD 0 default) (a2.getD 1 default)))))) (by kernel_rfl) ?_
        refine P_op k18 (.v (.one (.val (.bool (decide ((imin (a2.getD 0 default) (a2.getD 1 default)) < 0)))))) (by kernel_rfl) ?_
        refine HOps_end (by kernel_rfl) ?_
        refine R_cond (.tmp 38) (nd Tryd.f7 [1, 1, 1, 0, 1, 0]) (nd Tryd.f7 [1, 1, 1, 0, 1, 1]) (by kernel_rfl) (decide ((imin (a2.getD 0 default) (a2.getD 1 default)) < 0)) (by kernel_rfl) (fun b19 => ?_) (fun b19 => ?_)
        · replace hm := bif_t b19 hm
          refine R_join (ι := Bool) (nd Tryd.f7 [1, 1, 1, 0, 1, 0, 0]) (nd Tryd.f7 [1, 1, 1, 0, 1, 0, 1]) (by kernel_rfl) (fun p => law12_RingKeeps_k3_S p) (fun p => law12_RingKeeps_k3 p = some r) ?_ ?_
          · rintro x27 hm
            show H _ (law12_RingKeeps_k3_S x27) (nd Tryd.f7 [1, 1, 1, 0, 1, 0, 1]) _
            obtain rfl := Option.some.inj hm
            refine R_ret (by kernel_rfl) ?_
            exact ret_mk (by kernel_rfl) (by kernel_rfl)
          · obtain ⟨v20, h21, hm⟩ := bind_s hm
            obtain ⟨v22, h23, hm⟩ := bind_s hm
            rcases Bool.eq_false_or_eq_true v22 with b24 | b24
            · replace hm := bif_t b24 hm
              obtain ⟨v25, h26, hm⟩ := bind_s hm
              refine R_draw 5 (rg Tryd.f7 [1, 1, 1, 0, 1, 0, 0]) (by kernel_rfl) [⟨true, .v (.agg [.val (.int .i64 a1.Z), tl e_Reading default a1.Read]), [], [], [3], [1]⟩, ⟨true, .v (.one (.val (.int .i64 (imin (a2.getD 0 default) (a2.getD 1 default))))), [], [], [7], []⟩, ⟨true, (ring_Clean_x v20).sh 3, obNv 3 (ring_Clean_o v20), obSh 3 (ring_Clean_o v20), [39, 40], []⟩, ⟨true, .v (.agg [.val (.int .i64 a1.Z), tl e_Reading default a1.Read]), [], [], [3], [1]⟩, ⟨true, (ref12_Same_x v22).sh 4, obNv 4 (ref12_Same_o v22), obSh 4 (ref12_Same_o v22), [41, 42], [3]⟩, ⟨true, boolV true, [], [], [43], []⟩, ⟨true, (law12_awake_x v25).sh 4, obNv 4 (law12_awake_o v25), obSh 4 (law12_awake_o v25), [44], []⟩, ⟨true, .v (.one (.val (.bool v25))), [], [], [44, 45], []⟩, ⟨true, .v (.one (.val (.bool v25))), [], [], [46], []⟩] [0, 0, 3, 0, 15, 31, 63, 127, 255] (by kernel_rfl) (by kernel_rfl) (by kernel_rfl) (by kernel_rfl) (by kernel_rfl) (by kernel_rfl) ?_ ?_
              · refine A_pure (.v (.agg [.val (.int .i64 a1.Z), tl e_Reading default a1.Read])) [3] [1] (True) (by kernel_rfl) trivial ?_
                refine A_pure (.v (.one (.val (.int .i64 (imin (a2.getD 0 default) (a2.getD 1 default)))))) [7] [] (True) (by kernel_rfl) trivial ?_
                refine A_run ⟨true, (ring_Clean_x v20).sh 3, obNv 3 (ring_Clean_o v20), obSh 3 (ring_Clean_o v20), [39, 40], []⟩ (by kernel_rfl) (Step_call (x := ring_Clean_x v20) (ob := ring_Clean_o v20) (f := 17) (args := [(.tmp 39), (.tmp 40)]) (fn := Tryd.f17) (ys := [.agg [.val (.int .i64 a1.Z), tl e_Reading default a1.Read], .one (.val (.int .i64 (imin (a2.getD 0 default) (a2.getD 1 default))))]) 3 (by kernel_rfl) (by kernel_rfl) (by kernel_rfl) (by kernel_rfl) (by kernel_rfl) (by kernel_rfl) rfl (ring_Clean_ok a1 (imin (a2.getD 0 default) (a2.getD 1 default)) v20 h21) (by kernel_rfl) (by kernel_rfl)) ?_
                refine A_pure (.v (.agg [.val (.int .i64 a1.Z), tl e_Reading default a1.Read])) [3] [1] (True) (by kernel_rfl) trivial ?_
                refine A_run ⟨true, (ref12_Same_x v22).sh 4, obNv 4 (ref12_Same_o v22), obSh 4 (ref12_Same_o v22), [41, 42], [3]⟩ (by kernel_rfl) (Step_call_own (x := ref12_Same_x v22) (ob := ref12_Same_o v22) (f := 16) (args := [(.tmp 41), (.tmp 42)]) (fn := Tryd.f16) (ys := [.agg [.val (.int .i64 v20.Z), .own 3 0 3 v20.Read.length], .agg [.val (.int .i64 a1.Z), tl e_Reading default a1.Read]]) (zs := [.agg [.val (.int .i64 v20.Z), .lst v20.Read.length (rowf e_Reading default v20.Read)], .agg [.val (.int .i64 a1.Z), tl e_Reading default a1.Read]]) (p := ((True ∧ (v20.Read.length ≤ v20.Read.length ∧ True)) ∧ ((True ∧ (True ∧ True)) ∧ True))) 4 (by kernel_rfl) (by kernel_rfl) (by kernel_rfl) (by kernel_rfl) (by kernel_rfl) (by kernel_rfl) ⟨⟨trivial, ⟨(Nat.le_refl _), trivial⟩⟩, ⟨⟨trivial, ⟨trivial, trivial⟩⟩, trivial⟩⟩ rfl (ref12_Same_ok (Ring.mk v20.Z v20.Read) a1 v22 h23) (by kernel_rfl) (by kernel_rfl) (by kernel_rfl) (ref12_Same_f v22)) ?_
                refine A_pureE (boolV true) (boolV v22) (congrArg boolV b24) [43] [] (True) (by kernel_rfl) trivial ?_
                refine A_run ⟨true, (law12_awake_x v25).sh 4, obNv 4 (law12_awake_o v25), obSh 4 (law12_awake_o v25), [44], []⟩ (by kernel_rfl) (Step_call (x := law12_awake_x v25) (ob := law12_awake_o v25) (f := 11) (args := []) (fn := Tryd.f11) (ys := []) 4 (by kernel_rfl) (by kernel_rfl) (by kernel_rfl) (by kernel_rfl) (by kernel_rfl) (by kernel_rfl) rfl (law12_awake_ok v25 h26) (by kernel_rfl) (by kernel_rfl)) ?_
                refine A_pure (.v (.one (.val (.bool v25)))) [44, 45] [] (True) (by kernel_rfl) trivial ?_
                refine A_pure (.v (.one (.val (.bool v25)))) [46] [] (True) (by kernel_rfl) trivial ?_
                exact A_end
              · exact J_mk (v25) hm (by kernel_rfl) (by kernel_rfl)
            · replace hm := bif_f b24 hm
              refine R_draw 5 (rg Tryd.f7 [1, 1, 1, 0, 1, 0, 0]) (by kernel_rfl) [⟨true, .v (.agg [.val (.int .i64 a1.Z), tl e_Reading default a1.Read]), [], [], [3], [1]⟩, ⟨true, .v (.one (.val (.int .i64 (imin (a2.getD 0 default) (a2.getD 1 default))))), [], [], [7], []⟩, ⟨true, (ring_Clean_x v20).sh 3, obNv 3 (ring_Clean_o v20), obSh 3 (ring_Clean_o v20), [39, 40], []⟩, ⟨true, .v (.agg [.val (.int .i64 a1.Z), tl e_Reading default a1.Read]), [], [], [3], [1]⟩, ⟨true, (ref12_Same_x v22).sh 4, obNv 4 (ref12_Same_o v22), obSh 4 (ref12_Same_o v22), [41, 42], [3]⟩, ⟨true, boolV false, [], [], [43], []⟩, ⟨false, .undef, [], [], [44], []⟩, ⟨true, .v (.one (.val (.bool false))), [], [], [44, 45], []⟩, ⟨true, .v (.one (.val (.bool false))), [], [], [46], []⟩] [0, 0, 3, 0, 15, 31, 63, 127, 255] (by kernel_rfl) (by kernel_rfl) (by kernel_rfl) (by kernel_rfl) (by kernel_rfl) (by kernel_rfl) ?_ ?_
              · refine A_pure (.v (.agg [.val (.int .i64 a1.Z), tl e_Reading default a1.Read])) [3] [1] (True) (by kernel_rfl) trivial ?_
                refine A_pure (.v (.one (.val (.int .i64 (imin (a2.getD 0 default) (a2.getD 1 default)))))) [7] [] (True) (by kernel_rfl) trivial ?_
                refine A_run ⟨true, (ring_Clean_x v20).sh 3, obNv 3 (ring_Clean_o v20), obSh 3 (ring_Clean_o v20), [39, 40], []⟩ (by kernel_rfl) (Step_call (x := ring_Clean_x v20) (ob := ring_Clean_o v20) (f := 17) (args := [(.tmp 39), (.tmp 40)]) (fn := Tryd.f17) (ys := [.agg [.val (.int .i64 a1.Z), tl e_Reading default a1.Read], .one (.val (.int .i64 (imin (a2.getD 0 default) (a2.getD 1 default))))]) 3 (by kernel_rfl) (by kernel_rfl) (by kernel_rfl) (by kernel_rfl) (by kernel_rfl) (by kernel_rfl) rfl (ring_Clean_ok a1 (imin (a2.getD 0 default) (a2.getD 1 default)) v20 h21) (by kernel_rfl) (by kernel_rfl)) ?_
                refine A_pure (.v (.agg [.val (.int .i64 a1.Z), tl e_Reading default a1.Read])) [3] [1] (True) (by kernel_rfl) trivial ?_
                refine A_run ⟨true, (ref12_Same_x v22).sh 4, obNv 4 (ref12_Same_o v22), obSh 4 (ref12_Same_o v22), [41, 42], [3]⟩ (by kernel_rfl) (Step_call_own (x := ref12_Same_x v22) (ob := ref12_Same_o v22) (f := 16) (args := [(.tmp 41), (.tmp 42)]) (fn := Tryd.f16) (ys := [.agg [.val (.int .i64 v20.Z), .own 3 0 3 v20.Read.length], .agg [.val (.int .i64 a1.Z), tl e_Reading default a1.Read]]) (zs := [.agg [.val (.int .i64 v20.Z), .lst v20.Read.length (rowf e_Reading default v20.Read)], .agg [.val (.int .i64 a1.Z), tl e_Reading default a1.Read]]) (p := ((True ∧ (v20.Read.length ≤ v20.Read.length ∧ True)) ∧ ((True ∧ (True ∧ True)) ∧ True))) 4 (by kernel_rfl) (by kernel_rfl) (by kernel_rfl) (by kernel_rfl) (by kernel_rfl) (by kernel_rfl) ⟨⟨trivial, ⟨(Nat.le_refl _), trivial⟩⟩, ⟨⟨trivial, ⟨trivial, trivial⟩⟩, trivial⟩⟩ rfl (ref12_Same_ok (Ring.mk v20.Z v20.Read) a1 v22 h23) (by kernel_rfl) (by kernel_rfl) (by kernel_rfl) (ref12_Same_f v22)) ?_
                refine A_pureE (boolV false) (boolV v22) (congrArg boolV b24) [43] [] (True) (by kernel_rfl) trivial ?_
                refine A_skip [44] (by kernel_rfl) ?_
                refine A_pure (.v (.one (.val (.bool false)))) [44, 45] [] (True) (by kernel_rfl) trivial ?_
                refine A_pure (.v (.one (.val (.bool false)))) [46] [] (True) (by kernel_rfl) trivial ?_
                exact A_end
              · exact J_mk (false) hm (by kernel_rfl) (by kernel_rfl)
        · replace hm := bif_f b19 hm
          refine R_skip (by kernel_rfl) ?_
          refine R_seq (nd Tryd.f7 [1, 1, 1, 1, 0]) (nd Tryd.f7 [1, 1, 1, 1, 1]) (by kernel_rfl) ?_
          obtain ⟨v28, h29, hm⟩ := bind_s hm
          obtain ⟨v30, h31, hm⟩ := bind_s hm
          refine R_draw 6 (rg Tryd.f7 [1, 1, 1, 1, 0]) (by kernel_rfl) [⟨true, .v (.agg [.val (.int .i64 a1.Z), tl e_Reading default a1.Read]), [], [], [3], [1]⟩, ⟨true, .v (.one (.val (.int .i64 (imin (a2.getD 0 default) (a2.getD 1 default))))), [], [], [7], []⟩, ⟨true, (ring_Clean_x v28).sh 4, obNv 4 (ring_Clean_o v28), obSh 4 (ring_Clean_o v28), [47, 48], []⟩, ⟨true, .v (.agg [.val (.int .i64 a1.Z), tl e_Reading default a1.Read]), [], [], [3], [1]⟩, ⟨true, .v (.one (.val (.int .i64 (imax (a2.getD 0 default) (a2.getD 1 default))))), [], [], [8], []⟩, ⟨true, (ring_Clean_x v30).sh 5, obNv 5 (ring_Clean_o v30), obSh 5 (ring_Clean_o v30), [50, 51], []⟩, ⟨true, .v (.one (.bptr 6 0 0)), [(6, 0)], [(6, (0, .box 24 [.val (.int .i64 0), .emp]))], [], []⟩, ⟨true, .v (.one (.bptr 7 0 0)), [(7, 0)], [(7, (0, .box 24 [.val (.int .i64 0), .emp]))], [], []⟩, ⟨true, .undef, [], [(6, (0, .box 24 [.val (.int .i64 v28.Z), .own 4 0 3 v28.Read.length]))], [9, 49], [6]⟩, ⟨true, .undef, [], [(7, (0, .box 24 [.val (.int .i64 v30.Z), .own 5 0 3 v30.Read.length]))], [10, 52], [7]⟩] [0, 0, 3, 0, 0, 31, 0, 0, 255, 511] (by kernel_rfl) (by kernel_rfl) (by kernel_rfl) (by kernel_rfl) (by kernel_rfl) (by kernel_rfl) ?_ ?_
          · refine A_pure (.v (.agg [.val (.int .i64 a1.Z), tl e_Reading default a1.Read])) [3] [1] (True) (by kernel_rfl) trivial ?_
            refine A_pure (.v (.one (.val (.int .i64 (imin (a2.getD 0 default) (a2.getD 1 default)))))) [7] [] (True) (by kernel_rfl) trivial ?_
            refine A_run ⟨true, (ring_Clean_x v28).sh 4, obNv 4 (ring_Clean_o v28), obSh 4 (ring_Clean_o v28), [47, 48], []⟩ (by kernel_rfl) (Step_call (x := ring_Clean_x v28) (ob := ring_Clean_o v28) (f := 17) (args := [(.tmp 47), (.tmp 48)]) (fn := Tryd.f17) (ys := [.agg [.val (.int .i64 a1.Z), tl e_Reading default a1.Read], .one (.val (.int .i64 (imin (a2.getD 0 default) (a2.getD 1 default))))]) 4 (by kernel_rfl) (by kernel_rfl) (by kernel_rfl) (by kernel_rfl) (by kernel_rfl) (by kernel_rfl) rfl (ring_Clean_ok a1 (imin (a2.getD 0 default) (a2.getD 1 default)) v28 h29) (by kernel_rfl) (by kernel_rfl)) ?_
            refine A_pure (.v (.agg [.val (.int .i64 a1.Z), tl e_Reading default a1.Read])) [3] [1] (True) (by kernel_rfl) trivial ?_
            refine A_pure (.v (.one (.val (.int .i64 (imax (a2.getD 0 default) (a2.getD 1 default)))))) [8] [] (True) (by kernel_rfl) trivial ?_
            refine A_run ⟨true, (ring_Clean_x v30).sh 5, obNv 5 (ring_Clean_o v30), obSh 5 (ring_Clean_o v30), [50, 51], []⟩ (by kernel_rfl) (Step_call (x := ring_Clean_x v30) (ob := ring_Clean_o v30) (f := 17) (args := [(.tmp 50), (.tmp 51)]) (fn := Tryd.f17) (ys := [.agg [.val (.int .i64 a1.Z), tl e_Reading default a1.Read], .one (.val (.int .i64 (imax (a2.getD 0 default) (a2.getD 1 default))))]) 5 (by kernel_rfl) (by kernel_rfl) (by kernel_rfl) (by kernel_rfl) (by kernel_rfl) (by kernel_rfl) rfl (ring_Clean_ok a1 (imax (a2.getD 0 default) (a2.getD 1 default)) v30 h31) (by kernel_rfl) (by kernel_rfl)) ?_
            refine A_run ⟨true, .v (.one (.bptr 6 0 0)), [(6, 0)], [(6, (0, .box 24 [.val (.int .i64 0), .emp]))], [], []⟩ (by kernel_rfl) (Step_alloc 24 6 0 [.val (.int .i64 0), .emp] (by kernel_rfl) (by kernel_rfl) (by kernel_rfl)) ?_
            refine A_run ⟨true, .v (.one (.bptr 7 0 0)), [(7, 0)], [(7, (0, .box 24 [.val (.int .i64 0), .emp]))], [], []⟩ (by kernel_rfl) (Step_alloc 24 7 0 [.val (.int .i64 0), .emp] (by kernel_rfl) (by kernel_rfl) (by kernel_rfl)) ?_
            refine A_run ⟨true, .undef, [], [(6, (0, .box 24 [.val (.int .i64 v28.Z), .own 4 0 3 v28.Read.length]))], [9, 49], [6]⟩ (by kernel_rfl) (Step_store_box 24 (.tmp 9) (.tmp 49) 6 0 0 24 [.val (.int .i64 0), .emp] (.agg [.val (.int .i64 v28.Z), .own 4 0 3 v28.Read.length]) [.val (.int .i64 v28.Z), .own 4 0 3 v28.Read.length] (by kernel_rfl) (by kernel_rfl) (by kernel_rfl) (by kernel_rfl) (by kernel_rfl) (by kernel_rfl) (by kernel_rfl) (by kernel_rfl)) ?_
            refine A_run ⟨true, .undef, [], [(7, (0, .box 24 [.val (.int .i64 v30.Z), .own 5 0 3 v30.Read.length]))], [10, 52], [7]⟩ (by kernel_rfl) (Step_store_box 24 (.tmp 10) (.tmp 52) 7 0 0 24 [.val (.int .i64 0), .emp] (.agg [.val (.int .i64 v30.Z), .own 5 0 3 v30.Read.length]) [.val (.int .i64 v30.Z), .own 5 0 3 v30.Read.length] (by kernel_rfl) (by kernel_rfl) (by kernel_rfl) (by kernel_rfl) (by kernel_rfl) (by kernel_rfl) (by kernel_rfl) (by kernel_rfl)) ?_
            exact A_end
          · refine R_seq (nd Tryd.f7 [1, 1, 1, 1, 1, 0]) (nd Tryd.f7 [1, 1, 1, 1, 1, 1]) (by kernel_rfl) ?_
            refine R_join (ι := Bool) (nd Tryd.f7 [1, 1, 1, 1, 1, 0, 0]) (nd Tryd.f7 [1, 1, 1, 1, 1, 0, 1]) (by kernel_rfl) (fun p => law12_RingKeeps_k4_S a1 a2 a3 v28 v30 p) (fun p => law12_RingKeeps_k4 a1 a2 a3 v28 v30 p = some r) ?_ ?_
            · rintro x42 hm
              show H _ (law12_RingKeeps_k4_S a1 a2 a3 v28 v30 x42) (nd Tryd.f7 [1, 1, 1, 1, 1, 0, 1]) _
              refine R_cond (.tmp 87) (nd Tryd.f7 [1, 1, 1, 1, 1, 0, 1, 0]) (nd Tryd.f7 [1, 1, 1, 1, 1, 0, 1, 1]) (by kernel_rfl) x42 (by kernel_rfl) (fun b43 => ?_) (fun b43 => ?_)
              · replace hm := bif_t b43 hm
                refine R_seq (nd Tryd.f7 [1, 1, 1, 1, 1, 0, 1, 0, 0]) (nd Tryd.f7 [1, 1, 1, 1, 1, 0, 1, 0, 1]) (by kernel_rfl) ?_
                refine R_region 8 (rg Tryd.f7 [1, 1, 1, 1, 1, 0, 1, 0, 0]) (by kernel_rfl) ?_
                have k44 : opsOk 135 (rg Tryd.f7 [1, 1, 1, 1, 1, 0, 1, 0, 0]) = true := by kernel_rfl
                refine P_op k44 (.v (.one (.val (.bool false)))) (by kernel_rfl) ?_
                refine HOps_end (by kernel_rfl) ?_
                obtain rfl := Option.some.inj hm
                refine R_ret (by kernel_rfl) ?_
                exact ret_mk (by kernel_rfl) (by kernel_rfl)
              · replace hm := bif_f b43 hm
                refine R_skip (by kernel_rfl) ?_
                refine R_seq (nd Tryd.f7 [1, 1, 1, 1, 1, 1, 0]) (nd Tryd.f7 [1, 1, 1, 1, 1, 1, 1]) (by kernel_rfl) ?_
                refine R_seq (nd Tryd.f7 [1, 1, 1, 1, 1, 1, 0, 0]) (nd Tryd.f7 [1, 1, 1, 1, 1, 1, 0, 1]) (by kernel_rfl) ?_
                refine R_region 9 (rg Tryd.f7 [1, 1, 1, 1, 1, 1, 0, 0]) (by kernel_rfl) ?_
                have k45 : opsOk 135 (rg Tryd.f7 [1, 1, 1, 1, 1, 1, 0, 0]) = true := by kernel_rfl
                refine P_op k45 (.v (.one (.val (.int .i64 0)))) (by kernel_rfl) ?_
                refine HOps_end (by kernel_rfl) ?_
                obtain ⟨u60, h59, hm⟩ := bind_s hm
                refine R_loop1 (nd Tryd.f7 [1, 1, 1, 1, 1, 1, 0, 1, 0, 0]) 0 (by kernel_rfl) FUEL (fun o => law12_RingKeeps_L5_T a1 a2 a3 v28) (fun v st => RetQ Tryd.prog Tryd.f7 (law12_RingKeeps_x v) (law12_RingKeeps_o v) .ret st) u60 (HL_enter (law12_RingKeeps_L5_S a1 a2 a3 v28 v30 0) (by kernel_rfl) (by kernel_rfl) (law12_RingKeeps_L5_ok w A hg a1 a2 a3 v28 v30 FUEL 0 u60 h59)) ?_ ?_
                · rintro v61 rfl st hr
                  obtain rfl := Option.some.inj hm
                  exact hr
                · rintro o58 rfl
                  replace hm : _ = some r := hm
                  refine R_join (ι := Bool) (nd Tryd.f7 [1, 1, 1, 1, 1, 1, 1, 0]) (nd Tryd.f7 [1, 1, 1, 1, 1, 1, 1, 1]) (by kernel_rfl) (fun p => law12_RingKeeps_k7_S p) (fun p => law12_RingKeeps_k7 p = some r) ?_ ?_
                  · rintro x73 hm
                    show H _ (law12_RingKeeps_k7_S x73) (nd Tryd.f7 [1, 1, 1, 1, 1, 1, 1, 1]) _
                    obtain rfl := Option.some.inj hm
                    refine R_ret (by kernel_rfl) ?_
                    exact ret_mk (by kernel_rfl) (by kernel_rfl)
                  · obtain ⟨v62, h63, hm⟩ := bind_s hm
                    obtain ⟨v64, h65, hm⟩ := bind_s hm
                    obtain ⟨v66, h67, hm⟩ := bind_s hm
                    obtain ⟨v68, h69, hm⟩ := bind_s hm
                    rcases Bool.eq_false_or_eq_true v68 with b70 | b70
                    · replace hm := bif_t b70 hm
                      obtain ⟨v71, h72, hm⟩ := bind_s hm
                      refine R_draw 14 (rg Tryd.f7 [1, 1, 1, 1, 1, 1, 1, 0]) (by kernel_rfl) [⟨true, .v (.agg [.val (.int .i64 a1.Z), tl e_Reading default a1.Read]), [], [], [3], [1]⟩, ⟨true, .v (.one (.val (.int .i64 a3))), [], [], [2], []⟩, ⟨true, (ring_Turn_x v62).sh 9, obNv 9 (ring_Turn_o v62), obSh 9 (ring_Turn_o v62), [123, 124], []⟩, ⟨true, .v (.one (.val (.int .i64 (imin (a2.getD 0 default) (a2.getD 1 default))))), [], [], [7], []⟩, ⟨true, (ring_Clean_x v64).sh 10, obNv 10 (ring_Clean_o v64), obSh 10 (ring_Clean_o v64), [125, 126], [9]⟩, ⟨true, .v (.agg [.val (.int .i64 v28.Z), .own 4 0 3 v28.Read.length]), [], [], [9], [6]⟩, ⟨true, .v (.one (.val (.int .i64 a3))), [], [], [2], []⟩, ⟨true, (ring_Turn_x v66).sh 11, obNv 11 (ring_Turn_o v66), obSh 11 (ring_Turn_o v66), [128, 129], [4]⟩, ⟨true, (ref12_Same_x v68).sh 12, obNv 12 (ref12_Same_o v68), obSh 12 (ref12_Same_o v68), [127, 130], [10, 11]⟩, ⟨true, boolV true, [], [], [131], []⟩, ⟨true, (law12_awake_x v71).sh 12, obNv 12 (law12_awake_o v71), obSh 12 (law12_awake_o v71), [132], []⟩, ⟨true, .v (.one (.val (.bool v71))), [], [], [132, 133], []⟩, ⟨true, .v (.one (.val (.bool v71))), [], [], [134], []⟩] [0, 0, 3, 0, 15, 0, 0, 127, 255, 511, 1023, 2047, 4095] (by kernel_rfl) (by kernel_rfl) (by kernel_rfl) (by kernel_rfl) (by kernel_rfl) (by kernel_rfl) ?_ ?_
                      · refine A_pure (.v (.agg [.val (.int .i64 a1.Z), tl e_Reading default a1.Read])) [3] [1] (True) (by kernel_rfl) trivial ?_
                        refine A_pure (.v (.one (.val (.int .i64 a3)))) [2] [] (True) (by kernel_rfl) trivial ?_
                        refine A_run ⟨true, (ring_Turn_x v62).sh 9, obNv 9 (ring_Turn_o v62), obSh 9 (ring_Turn_o v62), [123, 124], []⟩ (by kernel_rfl) (Step_call (x := ring_Turn_x v62) (ob := ring_Turn_o v62) (f := 19) (args := [(.tmp 123), (.tmp 124)]) (fn := Tryd.f19) (ys := [.agg [.val (.int .i64 a1.Z), tl e_Reading default a1.Read], .one (.val (.int .i64 a3))]) 9 (by kernel_rfl) (by kernel_rfl) (by kernel_rfl) (by kernel_rfl) (by kernel_rfl) (by kernel_rfl) rfl (ring_Turn_ok a1 a3 v62 h63) (by kernel_rfl) (by kernel_rfl)) ?_
                        refine A_pure (.v (.one (.val (.int .i64 (imin (a2.getD 0 default) (a2.getD 1 default)))))) [7] [] (True) (by kernel_rfl) trivial ?_
                        refine A_run ⟨true, (ring_Clean_x v64).sh 10, obNv 10 (ring_Clean_o v64), obSh 10 (ring_Clean_o v64), [125, 126], [9]⟩ (by kernel_rfl) (Step_call_own (x := ring_Clean_x v64) (ob := ring_Clean_o v64) (f := 17) (args := [(.tmp 125), (.tmp 126)]) (fn := Tryd.f17) (ys := [.agg [.val (.int .i64 v62.Z), .own 9 0 3 v62.Read.length], .one (.val (.int .i64 (imin (a2.getD 0 default) (a2.getD 1 default))))]) (zs := [.agg [.val (.int .i64 v62.Z), .lst v62.Read.length (rowf e_Reading default v62.Read)], .one (.val (.int .i64 (imin (a2.getD 0 default) (a2.getD 1 default))))]) (p := ((True ∧ (v62.Read.length ≤ v62.Read.length ∧ True)) ∧ (True ∧ True))) 10 (by kernel_rfl) (by kernel_rfl) (by kernel_rfl) (by kernel_rfl) (by kernel_rfl) (by kernel_rfl) ⟨⟨trivial, ⟨(Nat.le_refl _), trivial⟩⟩, ⟨trivial, trivial⟩⟩ rfl (ring_Clean_ok (Ring.mk v62.Z v62.Read) (imin (a2.getD 0 default) (a2.getD 1 default)) v64 h65) (by kernel_rfl) (by kernel_rfl) (by kernel_rfl) (ring_Clean_f v64)) ?_
                        refine A_pure (.v (.agg [.val (.int .i64 v28.Z), .own 4 0 3 v28.Read.length])) [9] [6] (True) (by kernel_rfl) trivial ?_
                        refine A_pure (.v (.one (.val (.int .i64 a3)))) [2] [] (True) (by kernel_rfl) trivial ?_
                        refine A_run ⟨true, (ring_Turn_x v66).sh 11, obNv 11 (ring_Turn_o v66), obSh 11 (ring_Turn_o v66), [128, 129], [4]⟩ (by kernel_rfl) (Step_call_own (x := ring_Turn_x v66) (ob := ring_Turn_o v66) (f := 19) (args := [(.tmp 128), (.tmp 129)]) (fn := Tryd.f19) (ys := [.agg [.val (.int .i64 v28.Z), .own 4 0 3 v28.Read.length], .one (.val (.int .i64 a3))]) (zs := [.agg [.val (.int .i64 v28.Z), .lst v28.Read.length (rowf e_Reading default v28.Read)], .one (.val (.int .i64 a3))]) (p := ((True ∧ (v28.Read.length ≤ v28.Read.length ∧ True)) ∧ (True ∧ True))) 11 (by kernel_rfl) (by kernel_rfl) (by kernel_rfl) (by kernel_rfl) (by kernel_rfl) (by kernel_rfl) ⟨⟨trivial, ⟨(Nat.le_refl _), trivial⟩⟩, ⟨trivial, trivial⟩⟩ rfl (ring_Turn_ok (Ring.mk v28.Z v28.Read) a3 v66 h67) (by kernel_rfl) (by kernel_rfl) (by kernel_rfl) (ring_Turn_f v66)) ?_
                        refine A_run ⟨true, (ref12_Same_x v68).sh 12, obNv 12 (ref12_Same_o v68), obSh 12 (ref12_Same_o v68), [127, 130], [10, 11]⟩ (by kernel_rfl) (Step_call_own (x := ref12_Same_x v68) (ob := ref12_Same_o v68) (f := 16) (args := [(.tmp 127), (.tmp 130)]) (fn := Tryd.f16) (ys := [.agg [.val (.int .i64 v64.Z), .own 10 0 3 v64.Read.length], .agg [.val (.int .i64 v66.Z), .own 11 0 3 v66.Read.length]]) (zs := [.agg [.val (.int .i64 v64.Z), .lst v64.Read.length (rowf e_Reading default v64.Read)], .agg [.val (.int .i64 v66.Z), .lst v66.Read.length (rowf e_Reading default v66.Read)]]) (p := ((True ∧ (v64.Read.length ≤ v64.Read.length ∧ True)) ∧ ((True ∧ (v66.Read.length ≤ v66.Read.length ∧ True)) ∧ True))) 12 (by kernel_rfl) (by kernel_rfl) (by kernel_rfl) (by kernel_rfl) (by kernel_rfl) (by kernel_rfl) ⟨⟨trivial, ⟨(Nat.le_refl _), trivial⟩⟩, ⟨⟨trivial, ⟨(Nat.le_refl _), trivial⟩⟩, trivial⟩⟩ rfl (ref12_Same_ok (Ring.mk v64.Z v64.Read) (Ring.mk v66.Z v66.Read) v68 h69) (by kernel_rfl) (by kernel_rfl) (by kernel_rfl) (ref12_Same_f v68)) ?_
                        refine A_pureE (boolV true) (boolV v68) (congrArg boolV b70) [131] [] (True) (by kernel_rfl) trivial ?_
                        refine A_run ⟨true, (law12_awake_x v71).sh 12, obNv 12 (law12_awake_o v71), obSh 12 (law12_awake_o v71), [132], []⟩ (by kernel_rfl) (Step_call (x := law12_awake_x v71) (ob := law12_awake_o v71) (f := 11) (args := []) (fn := Tryd.f11) (ys := []) 12 (by kernel_rfl) (by kernel_rfl) (by kernel_rfl) (by kernel_rfl) (by kernel_rfl) (by kernel_rfl) rfl (law12_awake_ok v71 h72) (by kernel_rfl) (by kernel_rfl)) ?_
                        refine A_pure (.v (.one (.val (.bool v71)))) [132, 133] [] (True) (by kernel_rfl) trivial ?_
                        refine A_pure (.v (.one (.val (.bool v71)))) [134] [] (True) (by kernel_rfl) trivial ?_
                        exact A_end
                      · exact J_mk (v71) hm (by kernel_rfl) (by kernel_rfl)
                    · replace hm := bif_f b70 hm
                      refine R_draw 14 (rg Tryd.f7 [1, 1, 1, 1, 1, 1, 1, 0]) (by kernel_rfl) [⟨true, .v (.agg [.val (.int .i64 a1.Z), tl e_Reading default a1.Read]), [], [], [3], [1]⟩, ⟨true, .v (.one (.val (.int .i64 a3))), [], [], [2], []⟩, ⟨true, (ring_Turn_x v62).sh 9, obNv 9 (ring_Turn_o v62), obSh 9 (ring_Turn_o v62), [123, 124], []⟩, ⟨true, .v (.one (.val (.int .i64 (imin (a2.getD 0 default) (a2.getD 1 default))))), [], [], [7], []⟩, ⟨true, (ring_Clean_x v64).sh 10, obNv 10 (ring_Clean_o v64), obSh 10 (ring_Clean_o v64), [125, 126], [9]⟩, ⟨true, .v (.agg [.val (.int .i64 v28.Z), .own 4 0 3 v28.Read.length]), [], [], [9], [6]⟩, ⟨true, .v (.one (.val (.int .i64 a3))), [], [], [2], []⟩, ⟨true, (ring_Turn_x v66).sh 11, obNv 11 (ring_Turn_o v66), obSh 11 (ring_Turn_o v66), [128, 129], [4]⟩, ⟨true, (ref12_Same_x v68).sh 12, obNv 12 (ref12_Same_o v68), obSh 12 (ref12_Same_o v68), [127, 130], [10, 11]⟩, ⟨true, boolV false, [], [], [131], []⟩, ⟨false, .undef, [], [], [132], []⟩, ⟨true, .v (.one (.val (.bool false))), [], [], [132, 133], []⟩, ⟨true, .v (.one (.val (.bool false))), [], [], [134], []⟩] [0, 0, 3, 0, 15, 0, 0, 127, 255, 511, 1023, 2047, 4095] (by kernel_rfl) (by kernel_rfl) (by kernel_rfl) (by kernel_rfl) (by kernel_rfl) (by kernel_rfl) ?_ ?_
                      · refine A_pure (.v (.agg [.val (.int .i64 a1.Z), tl e_Reading default a1.Read])) [3] [1] (True) (by kernel_rfl) trivial ?_
                        refine A_pure (.v (.one (.val (.int .i64 a3)))) [2] [] (True) (by kernel_rfl) trivial ?_
                        refine A_run ⟨true, (ring_Turn_x v62).sh 9, obNv 9 (ring_Turn_o v62), obSh 9 (ring_Turn_o v62), [123, 124], []⟩ (by kernel_rfl) (Step_call (x := ring_Turn_x v62) (ob := ring_Turn_o v62) (f := 19) (args := [(.tmp 123), (.tmp 124)]) (fn := Tryd.f19) (ys := [.agg [.val (.int .i64 a1.Z), tl e_Reading default a1.Read], .one (.val (.int .i64 a3))]) 9 (by kernel_rfl) (by kernel_rfl) (by kernel_rfl) (by kernel_rfl) (by kernel_rfl) (by kernel_rfl) rfl (ring_Turn_ok a1 a3 v62 h63) (by kernel_rfl) (by kernel_rfl)) ?_
                        refine A_pure (.v (.one (.val (.int .i64 (imin (a2.getD 0 default) (a2.getD 1 default)))))) [7] [] (True) (by kernel_rfl) trivial ?_
                        refine A_run ⟨true, (ring_Clean_x v64).sh 10, obNv 10 (ring_Clean_o v64), obSh 10 (ring_Clean_o v64), [125, 126], [9]⟩ (by kernel_rfl) (Step_call_own (x := ring_Clean_x v64) (ob := ring_Clean_o v64) (f := 17) (args := [(.tmp 125), (.tmp 126)]) (fn := Tryd.f17) (ys := [.agg [.val (.int .i64 v62.Z), .own 9 0 3 v62.Read.length], .one (.val (.int .i64 (imin (a2.getD 0 default) (a2.getD 1 default))))]) (zs := [.agg [.val (.int .i64 v62.Z), .lst v62.Read.length (rowf e_Reading default v62.Read)], .one (.val (.int .i64 (imin (a2.getD 0 default) (a2.getD 1 default))))]) (p := ((True ∧ (v62.Read.length ≤ v62.Read.length ∧ True)) ∧ (True ∧ True))) 10 (by kernel_rfl) (by kernel_rfl) (by kernel_rfl) (by kernel_rfl) (by kernel_rfl) (by kernel_rfl) ⟨⟨trivial, ⟨(Nat.le_refl _), trivial⟩⟩, ⟨trivial, trivial⟩⟩ rfl (ring_Clean_ok (Ring.mk v62.Z v62.Read) (imin (a2.getD 0 default) (a2.getD 1 default)) v64 h65) (by kernel_rfl) (by kernel_rfl) (by kernel_rfl) (ring_Clean_f v64)) ?_
                        refine A_pure (.v (.agg [.val (.int .i64 v28.Z), .own 4 0 3 v28.Read.length])) [9] [6] (True) (by kernel_rfl) trivial ?_
                        refine A_pure (.v (.one (.val (.int .i64 a3)))) [2] [] (True) (by kernel_rfl) trivial ?_
                        refine A_run ⟨true, (ring_Turn_x v66).sh 11, obNv 11 (ring_Turn_o v66), obSh 11 (ring_Turn_o v66), [128, 129], [4]⟩ (by kernel_rfl) (Step_call_own (x := ring_Turn_x v66) (ob := ring_Turn_o v66) (f := 19) (args := [(.tmp 128), (.tmp 129)]) (fn := Tryd.f19) (ys := [.agg [.val (.int .i64 v28.Z), .own 4 0 3 v28.Read.length], .one (.val (.int .i64 a3))]) (zs := [.agg [.val (.int .i64 v28.Z), .lst v28.Read.length (rowf e_Reading default v28.Read)], .one (.val (.int .i64 a3))]) (p := ((True ∧ (v28.Read.length ≤ v28.Read.length ∧ True)) ∧ (True ∧ True))) 11 (by kernel_rfl) (by kernel_rfl) (by kernel_rfl) (by kernel_rfl) (by kernel_rfl) (by kernel_rfl) ⟨⟨trivial, ⟨(Nat.le_refl _), trivial⟩⟩, ⟨trivial, trivial⟩⟩ rfl (ring_Turn_ok (Ring.mk v28.Z v28.Read) a3 v66 h67) (by kernel_rfl) (by kernel_rfl) (by kernel_rfl) (ring_Turn_f v66)) ?_
                        refine A_run ⟨true, (ref12_Same_x v68).sh 12, obNv 12 (ref12_Same_o v68), obSh 12 (ref12_Same_o v68), [127, 130], [10, 11]⟩ (by kernel_rfl) (Step_call_own (x := ref12_Same_x v68) (ob := ref12_Same_o v68) (f := 16) (args := [(.tmp 127), (.tmp 130)]) (fn := Tryd.f16) (ys := [.agg [.val (.int .i64 v64.Z), .own 10 0 3 v64.Read.length], .agg [.val (.int .i64 v66.Z), .own 11 0 3 v66.Read.length]]) (zs := [.agg [.val (.int .i64 v64.Z), .lst v64.Read.length (rowf e_Reading default v64.Read)], .agg [.val (.int .i64 v66.Z), .lst v66.Read.length (rowf e_Reading default v66.Read)]]) (p := ((True ∧ (v64.Read.length ≤ v64.Read.length ∧ True)) ∧ ((True ∧ (v66.Read.length ≤ v66.Read.length ∧ True)) ∧ True))) 12 (by kernel_rfl) (by kernel_rfl) (by kernel_rfl) (by kernel_rfl) (by kernel_rfl) (by kernel_rfl) ⟨⟨trivial, ⟨(Nat.le_refl _), trivial⟩⟩, ⟨⟨trivial, ⟨(Nat.le_refl _), trivial⟩⟩, trivial⟩⟩ rfl (ref12_Same_ok (Ring.mk v64.Z v64.Read) (Ring.mk v66.Z v66.Read) v68 h69) (by kernel_rfl) (by kernel_rfl) (by kernel_rfl) (ref12_Same_f v68)) ?_
                        refine A_pureE (boolV false) (boolV v68) (congrArg boolV b70) [131] [] (True) (by kernel_rfl) trivial ?_
                        refine A_skip [132] (by kernel_rfl) ?_
                        refine A_pure (.v (.one (.val (.bool false)))) [132, 133] [] (True) (by kernel_rfl) trivial ?_
                        refine A_pure (.v (.one (.val (.bool false)))) [134] [] (True) (by kernel_rfl) trivial ?_
                        exact A_end
                      · exact J_mk (false) hm (by kernel_rfl) (by kernel_rfl)
            · rcases Bool.eq_false_or_eq_true (v28.Z != a1.Z) with b32 | b32
              · replace hm := bif_t b32 hm
                refine R_draw 7 (rg Tryd.f7 [1, 1, 1, 1, 1, 0, 0]) (by kernel_rfl) [⟨true, .v (.one (.bptr 6 0 0)), [], [], [9], []⟩, ⟨true, .v (.one (.val (.int .i64 v28.Z))), [], [], [53], [6]⟩, ⟨true, .v (.one (.bptr 1 0 0)), [], [], [3], []⟩, ⟨true, .v (.one (.val (.int .i64 a1.Z))), [], [], [55], [1]⟩, ⟨true, .v (.one (.val (.bool (v28.Z != a1.Z)))), [], [], [54, 56], []⟩, ⟨true, boolV true, [], [], [57], []⟩, ⟨false, .undef, [], [], [58], []⟩, ⟨false, .undef, [], [], [58], []⟩, ⟨false, .undef, [], [], [58], []⟩, ⟨false, .undef, [], [], [58], []⟩, ⟨false, .undef, [], [], [58], []⟩, ⟨false, .undef, [], [], [58], []⟩, ⟨false, .undef, [], [], [58], []⟩, ⟨true, .v (.one (.val (.bool true))), [], [], [58, 65], []⟩, ⟨true, .v (.one (.val (.bool true))), [], [], [66], []⟩, ⟨false, .undef, [], [], [67], []⟩, ⟨false, .undef, [], [], [67], []⟩, ⟨false, .undef, [], [], [67], []⟩, ⟨false, .undef, [], [], [67], []⟩, ⟨false, .undef, [], [], [67], []⟩, ⟨false, .undef, [], [], [67], []⟩, ⟨false, .undef, [], [], [67], []⟩, ⟨true, .v (.one (.val (.bool true))), [], [], [67, 74], []⟩, ⟨true, .v (.one (.val (.bool true))), [], [], [75], []⟩, ⟨false, .undef, [], [], [76], []⟩, ⟨false, .undef, [], [], [76], []⟩, ⟨false, .undef, [], [], [76], []⟩, ⟨true, .v (.one (.val (.bool true))), [], [], [76, 79], []⟩, ⟨true, .v (.one (.val (.bool true))), [], [], [80], []⟩, ⟨false, .undef, [], [], [81], []⟩, ⟨false, .undef, [], [], [81], []⟩, ⟨false, .undef, [], [], [81], []⟩, ⟨false, .undef, [], [], [81], []⟩, ⟨false, .undef, [], [], [81], []⟩, ⟨true, .v (.one (.val (.bool true))), [], [], [81, 86], []⟩] [0, 1, 0, 4, 15, 31, 63, 127, 255, 63, 575, 1599, 4095, 8191, 16383, 32767, 65535, 131071, 32767, 294911, 819199, 2097151, 4194303, 8388607, 16777215, 33554431, 67108863, 134217727, 268435455, 536870911, 1073741823, 536870911, 4294967295, 8589934591, 17179869183] (by kernel_rfl) (by kernel_rfl) (by kernel_rfl) (by kernel_rfl) (by kernel_rfl) (by kernel_rfl) ?_ ?_
                · refine A_pure (.v (.one (.bptr 6 0 0))) [9] [] (True) (by kernel_rfl) trivial ?_
                  refine A_pure (.v (.one (.val (.int .i64 v28.Z)))) [53] [6] (True) (by kernel_rfl) trivial ?_
                  refine A_pure (.v (.one (.bptr 1 0 0))) [3] [] (True) (by kernel_rfl) trivial ?_
                  refine A_pure (.v (.one (.val (.int .i64 a1.Z)))) [55] [1] (True) (by kernel_rfl) trivial ?_
                  refine A_pure (.v (.one (.val (.bool (v28.Z != a1.Z))))) [54, 56] [] (True) (by kernel_rfl) trivial ?_
                  refine A_pureE (boolV true) (boolV (v28.Z != a1.Z)) (congrArg boolV b32) [57] [] (True) (by kernel_rfl) trivial ?_
                  refine A_skip [58] (by kernel_rfl) ?_
                  refine A_skip [58] (by kernel_rfl) ?_
                  refine A_skip [58] (by kernel_rfl) ?_
                  refine A_skip [58] (by kernel_rfl) ?_
                  refine A_skip [58] (by kernel_rfl) ?_
                  refine A_skip [58] (by kernel_rfl) ?_
                  refine A_skip [58] (by kernel_rfl) ?_
                  refine A_pure (.v (.one (.val (.bool true)))) [58, 65] [] (True) (by kernel_rfl) trivial ?_
                  refine A_pure (.v (.one (.val (.bool true)))) [66] [] (True) (by kernel_rfl) trivial ?_
                  refine A_skip [67] (by kernel_rfl) ?_
                  refine A_skip [67] (by kernel_rfl) ?_
                  refine A_skip [67] (by kernel_rfl) ?_
                  refine A_skip [67] (by kernel_rfl) ?_
                  refine A_skip [67] (by kernel_rfl) ?_
                  refine A_skip [67] (by kernel_rfl) ?_
                  refine A_skip [67] (by kernel_rfl) ?_
                  refine A_pure (.v (.one (.val (.bool true)))) [67, 74] [] (True) (by kernel_rfl) trivial ?_
                  refine A_pure (.v (.one (.val (.bool true)))) [75] [] (True) (by kernel_rfl) trivial ?_
                  refine A_skip [76] (by kernel_rfl) ?_
                  refine A_skip [76] (by kernel_rfl) ?_
                  refine A_skip [76] (by kernel_rfl) ?_
                  refine A_pure (.v (.one (.val (.bool true)))) [76, 79] [] (True) (by kernel_rfl) trivial ?_
                  refine A_pure (.v (.one (.val (.bool true)))) [80] [] (True) (by kernel_rfl) trivial ?_
                  refine A_skip [81] (by kernel_rfl) ?_
                  refine A_skip [81] (by kernel_rfl) ?_
                  refine A_skip [81] (by kernel_rfl) ?_
                  refine A_skip [81] (by kernel_rfl) ?_
                  refine A_skip [81] (by kernel_rfl) ?_
                  refine A_pure (.v (.one (.val (.bool true)))) [81, 86] [] (True) (by kernel_rfl) trivial ?_
                  exact A_end
                · exact J_mk (true) hm (by kernel_rfl) (by kernel_rfl)
              · replace hm := bif_f b32 hm
                rcases Bool.eq_false_or_eq_true (((v28.Read.length : Nat) : Int) != ((a1.Read.length : Nat) : Int)) with b33 | b33
                · replace hm := bif_t b33 hm
                  refine R_draw 7 (rg Tryd.f7 [1, 1, 1, 1, 1, 0, 0]) (by kernel_rfl) [⟨true, .v (.one (.bptr 6 0 0)), [], [], [9], []⟩, ⟨true, .v (.one (.val (.int .i64 v28.Z))), [], [], [53], [6]⟩, ⟨true, .v (.one (.bptr 1 0 0)), [], [], [3], []⟩, ⟨true, .v (.one (.val (.int .i64 a1.Z))), [], [], [55], [1]⟩, ⟨true, .v (.one (.val (.bool (v28.Z != a1.Z)))), [], [], [54, 56], []⟩, ⟨true, boolV false, [], [], [57], []⟩, ⟨true, .v (.one (.bptr 6 0 1)), [], [], [9, 58], []⟩, ⟨true, .v (.one (.own 4 0 3 v28.Read.length)), [], [], [58, 59], [6]⟩, ⟨true, .v (.one (.val (.int .i64 ((v28.Read.length : Nat) : Int)))), [], [], [58, 60], []⟩, ⟨true, .v (.one (.bptr 1 0 1)), [], [], [3, 58], []⟩, ⟨true, .v (.one (tl e_Reading default a1.Read)), [], [], [58, 62], [1]⟩, ⟨true, .v (.one (.val (.int .i64 ((a1.Read.length : Nat) : Int)))), [], [], [58, 63], []⟩, ⟨true, .v (.one (.val (.bool (((v28.Read.length : Nat) : Int) != ((a1.Read.length : Nat) : Int))))), [], [], [58, 61, 64], []⟩, ⟨true, .v (.one (.val (.bool (((v28.Read.length : Nat) : Int) != ((a1.Read.length : Nat) : Int))))), [], [], [58, 65], []⟩, ⟨true, boolV true, [], [], [66], []⟩, ⟨false, .undef, [], [], [67], []⟩, ⟨false, .undef, [], [], [67], []⟩, ⟨false, .undef, [], [], [67], []⟩, ⟨false, .undef, [], [], [67], []⟩, ⟨false, .undef, [], [], [67], []⟩, ⟨false, .undef, [], [], [67], []⟩, ⟨false, .undef, [], [], [67], []⟩, ⟨true, .v (.one (.val (.bool true))), [], [], [67, 74], []⟩, ⟨true, .v (.one (.val (.bool true))), [], [], [75], []⟩, ⟨false, .undef, [], [], [76], []⟩, ⟨false, .undef, [], [], [76], []⟩, ⟨false, .undef, [], [], [76], []⟩, ⟨true, .v (.one (.val (.bool true))), [], [], [76, 79], []⟩, ⟨true, .v (.one (.val (.bool true))), [], [], [80], []⟩, ⟨false, .undef, [], [], [81], []⟩, ⟨false, .undef, [], [], [81], []⟩, ⟨false, .undef, [], [], [81], []⟩, ⟨false, .undef, [], [], [81], []⟩, ⟨false, .undef, [], [], [81], []⟩, ⟨true, .v (.one (.val (.bool true))), [], [], [81, 86], []⟩] [0, 1, 0, 4, 15, 31, 63, 127, 255, 63, 575, 1599, 4095, 8191, 16383, 32767, 65535, 131071, 32767, 294911, 819199, 2097151, 4194303, 8388607, 16777215, 33554431, 67108863, 134217727, 268435455, 536870911, 1073741823, 536870911, 4294967295, 8589934591, 17179869183] (by kernel_rfl) (by kernel_rfl) (by kernel_rfl) (by kernel_rfl) (by kernel_rfl) (by kernel_rfl) ?_ ?_
                  · refine A_pure (.v (.one (.bptr 6 0 0))) [9] [] (True) (by kernel_rfl) trivial ?_
                    refine A_pure (.v (.one (.val (.int .i64 v28.Z)))) [53] [6] (True) (by kernel_rfl) trivial ?_
                    refine A_pure (.v (.one (.bptr 1 0 0))) [3] [] (True) (by kernel_rfl) trivial ?_
                    refine A_pure (.v (.one (.val (.int .i64 a1.Z)))) [55] [1] (True) (by kernel_rfl) trivial ?_
                    refine A_pure (.v (.one (.val (.bool (v28.Z != a1.Z))))) [54, 56] [] (True) (by kernel_rfl) trivial ?_
                    refine A_pureE (boolV false) (boolV (v28.Z != a1.Z)) (congrArg boolV b32) [57] [] (True) (by kernel_rfl) trivial ?_
                    refine A_pure (.v (.one (.bptr 6 0 1))) [9, 58] [] (True) (by kernel_rfl) trivial ?_
                    refine A_pure (.v (.one (.own 4 0 3 v28.Read.length))) [58, 59] [6] (True) (by kernel_rfl) trivial ?_
                    refine A_pure (.v (.one (.val (.int .i64 ((v28.Read.length : Nat) : Int))))) [58, 60] [] (True) (by kernel_rfl) trivial ?_
                    refine A_pure (.v (.one (.bptr 1 0 1))) [3, 58] [] (True) (by kernel_rfl) trivial ?_
                    refine A_pure (.v (.one (tl e_Reading default a1.Read))) [58, 62] [1] (True) (by kernel_rfl) trivial ?_
                    refine A_pure (.v (.one (.val (.int .i64 ((a1.Read.length : Nat) : Int))))) [58, 63] [] (True) (by kernel_rfl) trivial ?_
                    refine A_pure (.v (.one (.val (.bool (((v28.Read.length : Nat) : Int) != ((a1.Read.length : Nat) : Int)))))) [58, 61, 64] [] (True) (by kernel_rfl) trivial ?_
                    refine A_pure (.v (.one (.val (.bool (((v28.Read.length : Nat) : Int) != ((a1.Read.length : Nat) : Int)))))) [58, 65] [] (True) (by kernel_rfl) trivial ?_
                    refine A_pureE (boolV true) (boolV (((v28.Read.length : Nat) : Int) != ((a1.Read.length : Nat) : Int))) (congrArg boolV b33) [66] [] (True) (by kernel_rfl) trivial ?_
                    refine A_skip [67] (by kernel_rfl) ?_
                    refine A_skip [67] (by kernel_rfl) ?_
                    refine A_skip [67] (by kernel_rfl) ?_
                    refine A_skip [67] (by kernel_rfl) ?_
                    refine A_skip [67] (by kernel_rfl) ?_
                    refine A_skip [67] (by kernel_rfl) ?_
                    refine A_skip [67] (by kernel_rfl) ?_
                    refine A_pure (.v (.one (.val (.bool true)))) [67, 74] [] (True) (by kernel_rfl) trivial ?_
                    refine A_pure (.v (.one (.val (.bool true)))) [75] [] (True) (by kernel_rfl) trivial ?_
                    refine A_skip [76] (by kernel_rfl) ?_
                    refine A_skip [76] (by kernel_rfl) ?_
                    refine A_skip [76] (by kernel_rfl) ?_
                    refine A_pure (.v (.one (.val (.bool true)))) [76, 79] [] (True) (by kernel_rfl) trivial ?_
                    refine A_pure (.v (.one (.val (.bool true)))) [80] [] (True) (by kernel_rfl) trivial ?_
                    refine A_skip [81] (by kernel_rfl) ?_
                    refine A_skip [81] (by kernel_rfl) ?_
                    refine A_skip [81] (by kernel_rfl) ?_
                    refine A_skip [81] (by kernel_rfl) ?_
                    refine A_skip [81] (by kernel_rfl) ?_
                    refine A_pure (.v (.one (.val (.bool true)))) [81, 86] [] (True) (by kernel_rfl) trivial ?_
                    exact A_end
                  · exact J_mk (true) hm (by kernel_rfl) (by kernel_rfl)
                · replace hm := bif_f b33 hm
                  rcases Bool.eq_false_or_eq_true (((v30.Read.length : Nat) : Int) != ((a1.Read.length : Nat) : Int)) with b34 | b34
                  · replace hm := bif_t b34 hm
                    refine R_draw 7 (rg Tryd.f7 [1, 1, 1, 1, 1, 0, 0]) (by kernel_rfl) [⟨true, .v (.one (.bptr 6 0 0)), [], [], [9], []⟩, ⟨true, .v (.one (.val (.int .i64 v28.Z))), [], [], [53], [6]⟩, ⟨true, .v (.one (.bptr 1 0 0)), [], [], [3], []⟩, ⟨true, .v (.one (.val (.int .i64 a1.Z))), [], [], [55], [1]⟩, ⟨true, .v (.one (.val (.bool (v28.Z != a1.Z)))), [], [], [54, 56], []⟩, ⟨true, boolV false, [], [], [57], []⟩, ⟨true, .v (.one (.bptr 6 0 1)), [], [], [9, 58], []⟩, ⟨true, .v (.one (.own 4 0 3 v28.Read.length)), [], [], [58, 59], [6]⟩, ⟨true, .v (.one (.val (.int .i64 ((v28.Read.length : Nat) : Int)))), [], [], [58, 60], []⟩, ⟨true, .v (.one (.bptr 1 0 1)), [], [], [3, 58], []⟩, ⟨true, .v (.one (tl e_Reading default a1.Read)), [], [], [58, 62], [1]⟩, ⟨true, .v (.one (.val (.int .i64 ((a1.Read.length : Nat) : Int)))), [], [], [58, 63], []⟩, ⟨true, .v (.one (.val (.bool (((v28.Read.length : Nat) : Int) != ((a1.Read.length : Nat) : Int))))), [], [], [58, 61, 64], []⟩, ⟨true, .v (.one (.val (.bool (((v28.Read.length : Nat) : Int) != ((a1.Read.length : Nat) : Int))))), [], [], [58, 65], []⟩, ⟨true, boolV false, [], [], [66], []⟩, ⟨true, .v (.one (.bptr 7 0 1)), [], [], [10, 67], []⟩, ⟨true, .v (.one (.own 5 0 3 v30.Read.length)), [], [], [67, 68], [7]⟩, ⟨true, .v (.one (.val (.int .i64 ((v30.Read.length : Nat) : Int)))), [], [], [67, 69], []⟩, ⟨true, .v (.one (.bptr 1 0 1)), [], [], [3, 67], []⟩, ⟨true, .v (.one (tl e_Reading default a1.Read)), [], [], [67, 71], [1]⟩, ⟨true, .v (.one (.val (.int .i64 ((a1.Read.length : Nat) : Int)))), [], [], [67, 72], []⟩, ⟨true, .v (.one (.val (.bool (((v30.Read.length : Nat) : Int) != ((a1.Read.length : Nat) : Int))))), [], [], [67, 70, 73], []⟩, ⟨true, .v (.one (.val (.bool (((v30.Read.length : Nat) : Int) != ((a1.Read.length : Nat) : Int))))), [], [], [67, 74], []⟩, ⟨true, boolV true, [], [], [75], []⟩, ⟨false, .undef, [], [], [76], []⟩, ⟨false, .undef, [], [], [76], []⟩, ⟨false, .undef, [], [], [76], []⟩, ⟨true, .v (.one (.val (.bool true))), [], [], [76, 79], []⟩, ⟨true, .v (.one (.val (.bool true))), [], [], [80], []⟩, ⟨false, .undef, [], [], [81], []⟩, ⟨false, .undef, [], [], [81], []⟩, ⟨false, .undef, [], [], [81], []⟩, ⟨false, .undef, [], [], [81], []⟩, ⟨false, .undef, [], [], [81], []⟩, ⟨true, .v (.one (.val (.bool true))), [], [], [81, 86], []⟩] [0, 1, 0, 4, 15, 31, 63, 127, 255, 63, 575, 1599, 4095, 8191, 16383, 32767, 65535, 131071, 32767, 294911, 819199, 2097151, 4194303, 8388607, 16777215, 33554431, 67108863, 134217727, 268435455, 536870911, 1073741823, 536870911, 4294967295, 8589934591, 17179869183] (by kernel_rfl) (by kernel_rfl) (by kernel_rfl) (by kernel_rfl) (by kernel_rfl) (by kernel_rfl) ?_ ?_
                    · refine A_pure (.v (.one (.bptr 6 0 0))) [9] [] (True) (by kernel_rfl) trivial ?_
                      refine A_pure (.v (.one (.val (.int .i64 v28.Z)))) [53] [6] (True) (by kernel_rfl) trivial ?_
                      refine A_pure (.v (.one (.bptr 1 0 0))) [3] [] (True) (by kernel_rfl) trivial ?_
                      refine A_pure (.v (.one (.val (.int .i64 a1.Z)))) [55] [1] (True) (by kernel_rfl) trivial ?_
                      refine A_pure (.v (.one (.val (.bool (v28.Z != a1.Z))))) [54, 56] [] (True) (by kernel_rfl) trivial ?_
                      refine A_pureE (boolV false) (boolV (v28.Z != a1.Z)) (congrArg boolV b32) [57] [] (True) (by kernel_rfl) trivial ?_
                      refine A_pure (.v (.one (.bptr 6 0 1))) [9, 58] [] (True) (by kernel_rfl) trivial ?_
                      refine A_pure (.v (.one (.own 4 0 3 v28.Read.length))) [58, 59] [6] (True) (by kernel_rfl) trivial ?_
                      refine A_pure (.v (.one (.val (.int .i64 ((v28.Read.length : Nat) : Int))))) [58, 60] [] (True) (by kernel_rfl) trivial ?_
                      refine A_pure (.v (.one (.bptr 1 0 1))) [3, 58] [] (True) (by kernel_rfl) trivial ?_
                      refine A_pure (.v (.one (tl e_Reading default a1.Read))) [58, 62] [1] (True) (by kernel_rfl) trivial ?_
                      refine A_pure (.v (.one (.val (.int .i64 ((a1.Read.length : Nat) : Int))))) [58, 63] [] (True) (by kernel_rfl) trivial ?_
                      refine A_pure (.v (.one (.val (.bool (((v28.Read.length : Nat) : Int) != ((a1.Read.length : Nat) : Int)))))) [58, 61, 64] [] (True) (by kernel_rfl) trivial ?_
                      refine A_pure (.v (.one (.val (.bool (((v28.Read.length : Nat) : Int) != ((a1.Read.length : Nat) : Int)))))) [58, 65] [] (True) (by kernel_rfl) trivial ?_
                      refine A_pureE (boolV false) (boolV (((v28.Read.length : Nat) : Int) != ((a1.Read.length : Nat) : Int))) (congrArg boolV b33) [66] [] (True) (by kernel_rfl) trivial ?_
                      refine A_pure (.v (.one (.bptr 7 0 1))) [10, 67] [] (True) (by kernel_rfl) trivial ?_
                      refine A_pure (.v (.one (.own 5 0 3 v30.Read.length))) [67, 68] [7] (True) (by kernel_rfl) trivial ?_
                      refine A_pure (.v (.one (.val (.int .i64 ((v30.Read.length : Nat) : Int))))) [67, 69] [] (True) (by kernel_rfl) trivial ?_
                      refine A_pure (.v (.one (.bptr 1 0 1))) [3, 67] [] (True) (by kernel_rfl) trivial ?_
                      refine A_pure (.v (.one (tl e_Reading default a1.Read))) [67, 71] [1] (True) (by kernel_rfl) trivial ?_
                      refine A_pure (.v (.one (.val (.int .i64 ((a1.Read.length : Nat) : Int))))) [67, 72] [] (True) (by kernel_rfl) trivial ?_
                      refine A_pure (.v (.one (.val (.bool (((v30.Read.length : Nat) : Int) != ((a1.Read.length : Nat) : Int)))))) [67, 70, 73] [] (True) (by kernel_rfl) trivial ?_
                      refine A_pure (.v (.one (.val (.bool (((v30.Read.length : Nat) : Int) != ((a1.Read.length : Nat) : Int)))))) [67, 74] [] (True) (by kernel_rfl) trivial ?_
                      refine A_pureE (boolV true) (boolV (((v30.Read.length : Nat) : Int) != ((a1.Read.length : Nat) : Int))) (congrArg boolV b34) [75] [] (True) (by kernel_rfl) trivial ?_
                      refine A_skip [76] (by kernel_rfl) ?_
                      refine A_skip [76] (by kernel_rfl) ?_
                      refine A_skip [76] (by kernel_rfl) ?_
                      refine A_pure (.v (.one (.val (.bool true)))) [76, 79] [] (True) (by kernel_rfl) trivial ?_
                      refine A_pure (.v (.one (.val (.bool true)))) [80] [] (True) (by kernel_rfl) trivial ?_
                      refine A_skip [81] (by kernel_rfl) ?_
                      refine A_skip [81] (by kernel_rfl) ?_
                      refine A_skip [81] (by kernel_rfl) ?_
                      refine A_skip [81] (by kernel_rfl) ?_
                      refine A_skip [81] (by kernel_rfl) ?_
                      refine A_pure (.v (.one (.val (.bool true)))) [81, 86] [] (True) (by kernel_rfl) trivial ?_
                      exact A_end
                    · exact J_mk (true) hm (by kernel_rfl) (by kernel_rfl)
                  · replace hm := bif_f b34 hm
                    obtain ⟨v35, h36, hm⟩ := bind_s hm
                    rcases Bool.eq_false_or_eq_true (v35 != 0) with b37 | b37
                    · replace hm := bif_t b37 hm
                      refine R_draw 7 (rg Tryd.f7 [1, 1, 1, 1, 1, 0, 0]) (by kernel_rfl) [⟨true, .v (.one (.bptr 6 0 0)), [], [], [9], []⟩, ⟨true, .v (.one (.val (.int .i64 v28.Z))), [], [], [53], [6]⟩, ⟨true, .v (.one (.bptr 1 0 0)), [], [], [3], []⟩, ⟨true, .v (.one (.val (.int .i64 a1.Z))), [], [], [55], [1]⟩, ⟨true, .v (.one (.val (.bool (v28.Z != a1.Z)))), [], [], [54, 56], []⟩, ⟨true, boolV false, [], [], [57], []⟩, ⟨true, .v (.one (.bptr 6 0 1)), [], [], [9, 58], []⟩, ⟨true, .v (.one (.own 4 0 3 v28.Read.length)), [], [], [58, 59], [6]⟩, ⟨true, .v (.one (.val (.int .i64 ((v28.Read.length : Nat) : Int)))), [], [], [58, 60], []⟩, ⟨true, .v (.one (.bptr 1 0 1)), [], [], [3, 58], []⟩, ⟨true, .v (.one (tl e_Reading default a1.Read)), [], [], [58, 62], [1]⟩, ⟨true, .v (.one (.val (.int .i64 ((a1.Read.length : Nat) : Int)))), [], [], [58, 63], []⟩, ⟨true, .v (.one (.val (.bool (((v28.Read.length : Nat) : Int) != ((a1.Read.length : Nat) : Int))))), [], [], [58, 61, 64], []⟩, ⟨true, .v (.one (.val (.bool (((v28.Read.length : Nat) : Int) != ((a1.Read.length : Nat) : Int))))), [], [], [58, 65], []⟩, ⟨true, boolV false, [], [], [66], []⟩, ⟨true, .v (.one (.bptr 7 0 1)), [], [], [10, 67], []⟩, ⟨true, .v (.one (.own 5 0 3 v30.Read.length)), [], [], [67, 68], [7]⟩, ⟨true, .v (.one (.val (.int .i64 ((v30.Read.length : Nat) : Int)))), [], [], [67, 69], []⟩, ⟨true, .v (.one (.bptr 1 0 1)), [], [], [3, 67], []⟩, ⟨true, .v (.one (tl e_Reading default a1.Read)), [], [], [67, 71], [1]⟩, ⟨true, .v (.one (.val (.int .i64 ((a1.Read.length : Nat) : Int)))), [], [], [67, 72], []⟩, ⟨true, .v (.one (.val (.bool (((v30.Read.length : Nat) : Int) != ((a1.Read.length : Nat) : Int))))), [], [], [67, 70, 73], []⟩, ⟨true, .v (.one (.val (.bool (((v30.Read.length : Nat) : Int) != ((a1.Read.length : Nat) : Int))))), [], [], [67, 74], []⟩, ⟨true, boolV false, [], [], [75], []⟩, ⟨true, .v (.agg [.val (.int .i64 v28.Z), .own 4 0 3 v28.Read.length]), [], [], [9, 76], [6]⟩, ⟨true, (ring_Check_x v35).sh 8, obNv 8 (ring_Check_o v35), obSh 8 (ring_Check_o v35), [76, 77], [4]⟩, ⟨true, .v (.one (.val (.bool (v35 != 0)))), [], [], [76, 78], []⟩, ⟨true, .v (.one (.val (.bool (v35 != 0)))), [], [], [76, 79], []⟩, ⟨true, boolV true, [], [], [80], []⟩, ⟨false, .undef, [], [], [81], []⟩, ⟨false, .undef, [], [], [81], []⟩, ⟨false, .undef, [], [], [81], []⟩, ⟨false, .undef, [], [], [81], []⟩, ⟨false, .undef, [], [], [81], []⟩, ⟨true, .v (.one (.val (.bool true))), [], [], [81, 86], []⟩] [0, 1, 0, 4, 15, 31, 63, 127, 255, 63, 575, 1599, 4095, 8191, 16383, 32767, 65535, 131071, 32767, 294911, 819199, 2097151, 4194303, 8388607, 16777215, 33554431, 67108863, 134217727, 268435455, 536870911, 1073741823, 536870911, 4294967295, 8589934591, 17179869183] (by kernel_rfl) (by kernel_rfl) (by kernel_rfl) (by kernel_rfl) (by kernel_rfl) (by kernel_rfl) ?_ ?_
                      · refine A_pure (.v (.one (.bptr 6 0 0))) [9] [] (True) (by kernel_rfl) trivial ?_
                        refine A_pure (.v (.one (.val (.int .i64 v28.Z)))) [53] [6] (True) (by kernel_rfl) trivial ?_
                        refine A_pure (.v (.one (.bptr 1 0 0))) [3] [] (True) (by kernel_rfl) trivial ?_
                        refine A_pure (.v (.one (.val (.int .i64 a1.Z)))) [55] [1] (True) (by kernel_rfl) trivial ?_
                        refine A_pure (.v (.one (.val (.bool (v28.Z != a1.Z))))) [54, 56] [] (True) (by kernel_rfl) trivial ?_
                        refine A_pureE (boolV false) (boolV (v28.Z != a1.Z)) (congrArg boolV b32) [57] [] (True) (by kernel_rfl) trivial ?_
                        refine A_pure (.v (.one (.bptr 6 0 1))) [9, 58] [] (True) (by kernel_rfl) trivial ?_
                        refine A_pure (.v (.one (.own 4 0 3 v28.Read.length))) [58, 59] [6] (True) (by kernel_rfl) trivial ?_
                        refine A_pure (.v (.one (.val (.int .i64 ((v28.Read.length : Nat) : Int))))) [58, 60] [] (True) (by kernel_rfl) trivial ?_
                        refine A_pure (.v (.one (.bptr 1 0 1))) [3, 58] [] (True) (by kernel_rfl) trivial ?_
                        refine A_pure (.v (.one (tl e_Reading default a1.Read))) [58, 62] [1] (True) (by kernel_rfl) trivial ?_
                        refine A_pure (.v (.one (.val (.int .i64 ((a1.Read.length : Nat) : Int))))) [58, 63] [] (True) (by kernel_rfl) trivial ?_
                        refine A_pure (.v (.one (.val (.bool (((v28.Read.length : Nat) : Int) != ((a1.Read.length : Nat) : Int)))))) [58, 61, 64] [] (True) (by kernel_rfl) trivial ?_
                        refine A_pure (.v (.one (.val (.bool (((v28.Read.length : Nat) : Int) != ((a1.Read.length : Nat) : Int)))))) [58, 65] [] (True) (by kernel_rfl) trivial ?_
                        refine A_pureE (boolV false) (boolV (((v28.Read.length : Nat) : Int) != ((a1.Read.length : Nat) : Int))) (congrArg boolV b33) [66] [] (True) (by kernel_rfl) trivial ?_
                        refine A_pure (.v (.one (.bptr 7 0 1))) [10, 67] [] (True) (by kernel_rfl) trivial ?_
                        refine A_pure (.v (.one (.own 5 0 3 v30.Read.length))) [67, 68] [7] (True) (by kernel_rfl) trivial ?_
                        refine A_pure (.v (.one (.val (.int .i64 ((v30.Read.length : Nat) : Int))))) [67, 69] [] (True) (by kernel_rfl) trivial ?_
                        refine A_pure (.v (.one (.bptr 1 0 1))) [3, 67] [] (True) (by kernel_rfl) trivial ?_
                        refine A_pure (.v (.one (tl e_Reading default a1.Read))) [67, 71] [1] (True) (by kernel_rfl) trivial ?_
                        refine A_pure (.v (.one (.val (.int .i64 ((a1.Read.length : Nat) : Int))))) [67, 72] [] (True) (by kernel_rfl) trivial ?_
                        refine A_pure (.v (.one (.val (.bool (((v30.Read.length : Nat) : Int) != ((a1.Read.length : Nat) : Int)))))) [67, 70, 73] [] (True) (by kernel_rfl) trivial ?_
                        refine A_pure (.v (.one (.val (.bool (((v30.Read.length : Nat) : Int) != ((a1.Read.length : Nat) : Int)))))) [67, 74] [] (True) (by kernel_rfl) trivial ?_
                        refine A_pureE (boolV false) (boolV (((v30.Read.length : Nat) : Int) != ((a1.Read.length : Nat) : Int))) (congrArg boolV b34) [75] [] (True) (by kernel_rfl) trivial ?_
                        refine A_pure (.v (.agg [.val (.int .i64 v28.Z), .own 4 0 3 v28.Read.length])) [9, 76] [6] (True) (by kernel_rfl) trivial ?_
                        refine A_run ⟨true, (ring_Check_x v35).sh 8, obNv 8 (ring_Check_o v35), obSh 8 (ring_Check_o v35), [76, 77], [4]⟩ (by kernel_rfl) (Step_call_own (x := ring_Check_x v35) (ob := ring_Check_o v35) (f := 14) (args := [(.tmp 77)]) (fn := Tryd.f14) (ys := [.agg [.val (.int .i64 v28.Z), .own 4 0 3 v28.Read.length]]) (zs := [.agg [.val (.int .i64 v28.Z), .lst v28.Read.length (rowf e_Reading default v28.Read)]]) (p := ((True ∧ (v28.Read.length ≤ v28.Read.length ∧ True)) ∧ True)) 8 (by kernel_rfl) (by kernel_rfl) (by kernel_rfl) (by kernel_rfl) (by kernel_rfl) (by kernel_rfl) ⟨⟨trivial, ⟨(Nat.le_refl _), trivial⟩⟩, trivial⟩ rfl (ring_Check_ok (Ring.mk v28.Z v28.Read) v35 h36) (by kernel_rfl) (by kernel_rfl) (by kernel_rfl) (ring_Check_f v35)) ?_
                        refine A_pure (.v (.one (.val (.bool (v35 != 0))))) [76, 78] [] (True) (by kernel_rfl) trivial ?_
                        refine A_pure (.v (.one (.val (.bool (v35 != 0))))) [76, 79] [] (True) (by kernel_rfl) trivial ?_
                        refine A_pureE (boolV true) (boolV (v35 != 0)) (congrArg boolV b37) [80] [] (True) (by kernel_rfl) trivial ?_
                        refine A_skip [81] (by kernel_rfl) ?_
                        refine A_skip [81] (by kernel_rfl) ?_
                        refine A_skip [81] (by kernel_rfl) ?_
                        refine A_skip [81] (by kernel_rfl) ?_
                        refine A_skip [81] (by kernel_rfl) ?_
                        refine A_pure (.v (.one (.val (.bool true)))) [81, 86] [] (True) (by kernel_rfl) trivial ?_
                        exact A_end
                      · exact J_mk (true) hm (by kernel_rfl) (by kernel_rfl)
                    · replace hm := bif_f b37 hm
                      obtain ⟨v38, h39, hm⟩ := bind_s hm
                      obtain ⟨v40, h41, hm⟩ := bind_s hm
                      refine R_draw 7 (rg Tryd.f7 [1, 1, 1, 1, 1, 0, 0]) (by kernel_rfl) [⟨true, .v (.one (.bptr 6 0 0)), [], [], [9], []⟩, ⟨true, .v (.one (.val (.int .i64 v28.Z))), [], [], [53], [6]⟩, ⟨true, .v (.one (.bptr 1 0 0)), [], [], [3], []⟩, ⟨true, .v (.one (.val (.int .i64 a1.Z))), [], [], [55], [1]⟩, ⟨true, .v (.one (.val (.bool (v28.Z != a1.Z)))), [], [], [54, 56], []⟩, ⟨true, boolV false, [], [], [57], []⟩, ⟨true, .v (.one (.bptr 6 0 1)), [], [], [9, 58], []⟩, ⟨true, .v (.one (.own 4 0 3 v28.Read.length)), [], [], [58, 59], [6]⟩, ⟨true, .v (.one (.val (.int .i64 ((v28.Read.length : Nat) : Int)))), [], [], [58, 60], []⟩, ⟨true, .v (.one (.bptr 1 0 1)), [], [], [3, 58], []⟩, ⟨true, .v (.one (tl e_Reading default a1.Read)), [], [], [58, 62], [1]⟩, ⟨true, .v (.one (.val (.int .i64 ((a1.Read.length : Nat) : Int)))), [], [], [58, 63], []⟩, ⟨true, .v (.one (.val (.bool (((v28.Read.length : Nat) : Int) != ((a1.Read.length : Nat) : Int))))), [], [], [58, 61, 64], []⟩, ⟨true, .v (.one (.val (.bool (((v28.Read.length : Nat) : Int) != ((a1.Read.length : Nat) : Int))))), [], [], [58, 65], []⟩, ⟨true, boolV false, [], [], [66], []⟩, ⟨true, .v (.one (.bptr 7 0 1)), [], [], [10, 67], []⟩, ⟨true, .v (.one (.own 5 0 3 v30.Read.length)), [], [], [67, 68], [7]⟩, ⟨true, .v (.one (.val (.int .i64 ((v30.Read.length : Nat) : Int)))), [], [], [67, 69], []⟩, ⟨true, .v (.one (.bptr 1 0 1)), [], [], [3, 67], []⟩, ⟨true, .v (.one (tl e_Reading default a1.Read)), [], [], [67, 71], [1]⟩, ⟨true, .v (.one (.val (.int .i64 ((a1.Read.length : Nat) : Int)))), [], [], [67, 72], []⟩, ⟨true, .v (.one (.val (.bool (((v30.Read.length : Nat) : Int) != ((a1.Read.length : Nat) : Int))))), [], [], [67, 70, 73], []⟩, ⟨true, .v (.one (.val (.bool (((v30.Read.length : Nat) : Int) != ((a1.Read.length : Nat) : Int))))), [], [], [67, 74], []⟩, ⟨true, boolV false, [], [], [75], []⟩, ⟨true, .v (.agg [.val (.int .i64 v28.Z), .own 4 0 3 v28.Read.length]), [], [], [9, 76], [6]⟩, ⟨true, (ring_Check_x v35).sh 8, obNv 8 (ring_Check_o v35), obSh 8 (ring_Check_o v35), [76, 77], [4]⟩, ⟨true, .v (.one (.val (.bool (v35 != 0)))), [], [], [76, 78], []⟩, ⟨true, .v (.one (.val (.bool (v35 != 0)))), [], [], [76, 79], []⟩, ⟨true, boolV false, [], [], [80], []⟩, ⟨true, .v (.agg [.val (.int .i64 a1.Z), tl e_Reading default a1.Read]), [], [], [3, 81], [1]⟩, ⟨true, (ring_Clean_x v38).sh 8, obNv 8 (ring_Clean_o v38), obSh 8 (ring_Clean_o v38), [81, 82], []⟩, ⟨true, .v (.agg [.val (.int .i64 a1.Z), tl e_Reading default a1.Read]), [], [], [3, 81], [1]⟩, ⟨true, (ref12_Same_x v40).sh 9, obNv 9 (ref12_Same_o v40), obSh 9 (ref12_Same_o v40), [81, 83, 84], [8]⟩, ⟨true, .v (.one (.val (.bool (!v40)))), [], [], [81, 85], []⟩, ⟨true, .v (.one (.val (.bool (!v40)))), [], [], [81, 86], []⟩] [0, 1, 0, 4, 15, 31, 63, 127, 255, 63, 575, 1599, 4095, 8191, 16383, 32767, 65535, 131071, 32767, 294911, 819199, 2097151, 4194303, 8388607, 16777215, 33554431, 67108863, 134217727, 268435455, 536870911, 1073741823, 536870911, 4294967295, 8589934591, 17179869183] (by kernel_rfl) (by kernel_rfl) (by kernel_rfl) (by kernel_rfl) (by kernel_rfl) (by kernel_rfl) ?_ ?_
                      · refine A_pure (.v (.one (.bptr 6 0 0))) [9] [] (True) (by kernel_rfl) trivial ?_
                        refine A_pure (.v (.one (.val (.int .i64 v28.Z)))) [53] [6] (True) (by kernel_rfl) trivial ?_
                        refine A_pure (.v (.one (.bptr 1 0 0))) [3] [] (True) (by kernel_rfl) trivial ?_
                        refine A_pure (.v (.one (.val (.int .i64 a1.Z)))) [55] [1] (True) (by kernel_rfl) trivial ?_
                        refine A_pure (.v (.one (.val (.bool (v28.Z != a1.Z))))) [54, 56] [] (True) (by kernel_rfl) trivial ?_
                        refine A_pureE (boolV false) (boolV (v28.Z != a1.Z)) (congrArg boolV b32) [57] [] (True) (by kernel_rfl) trivial ?_
                        refine A_pure (.v (.one (.bptr 6 0 1))) [9, 58] [] (True) (by kernel_rfl) trivial ?_
                        refine A_pure (.v (.one (.own 4 0 3 v28.Read.length))) [58, 59] [6] (True) (by kernel_rfl) trivial ?_
                        refine A_pure (.v (.one (.val (.int .i64 ((v28.Read.length : Nat) : Int))))) [58, 60] [] (True) (by kernel_rfl) trivial ?_
                        refine A_pure (.v (.one (.bptr 1 0 1))) [3, 58] [] (True) (by kernel_rfl) trivial ?_
                        refine A_pure (.v (.one (tl e_Reading default a1.Read))) [58, 62] [1] (True) (by kernel_rfl) trivial ?_
                        refine A_pure (.v (.one (.val (.int .i64 ((a1.Read.length : Nat) : Int))))) [58, 63] [] (True) (by kernel_rfl) trivial ?_
                        refine A_pure (.v (.one (.val (.bool (((v28.Read.length : Nat) : Int) != ((a1.Read.length : Nat) : Int)))))) [58, 61, 64] [] (True) (by kernel_rfl) trivial ?_
                        refine A_pure (.v (.one (.val (.bool (((v28.Read.length : Nat) : Int) != ((a1.Read.length : Nat) : Int)))))) [58, 65] [] (True) (by kernel_rfl) trivial ?_
                        refine A_pureE (boolV false) (boolV (((v28.Read.length : Nat) : Int) != ((a1.Read.length : Nat) : Int))) (congrArg boolV b33) [66] [] (True) (by kernel_rfl) trivial ?_
                        refine A_pure (.v (.one (.bptr 7 0 1))) [10, 67] [] (True) (by kernel_rfl) trivial ?_
                        refine A_pure (.v (.one (.own 5 0 3 v30.Read.length))) [67, 68] [7] (True) (by kernel_rfl) trivial ?_
                        refine A_pure (.v (.one (.val (.int .i64 ((v30.Read.length : Nat) : Int))))) [67, 69] [] (True) (by kernel_rfl) trivial ?_
                        refine A_pure (.v (.one (.bptr 1 0 1))) [3, 67] [] (True) (by kernel_rfl) trivial ?_
                        refine A_pure (.v (.one (tl e_Reading default a1.Read))) [67, 71] [1] (True) (by kernel_rfl) trivial ?_
                        refine A_pure (.v (.one (.val (.int .i64 ((a1.Read.length : Nat) : Int))))) [67, 72] [] (True) (by kernel_rfl) trivial ?_
                        refine A_pure (.v (.one (.val (.bool (((v30.Read.length : Nat) : Int) != ((a1.Read.length : Nat) : Int)))))) [67, 70, 73] [] (True) (by kernel_rfl) trivial ?_
                        refine A_pure (.v (.one (.val (.bool (((v30.Read.length : Nat) : Int) != ((a1.Read.length : Nat) : Int)))))) [67, 74] [] (True) (by kernel_rfl) trivial ?_
                        refine A_pureE (boolV false) (boolV (((v30.Read.length : Nat) : Int) != ((a1.Read.length : Nat) : Int))) (congrArg boolV b34) [75] [] (True) (by kernel_rfl) trivial ?_
                        refine A_pure (.v (.agg [.val (.int .i64 v28.Z), .own 4 0 3 v28.Read.length])) [9, 76] [6] (True) (by kernel_rfl) trivial ?_
                        refine A_run ⟨true, (ring_Check_x v35).sh 8, obNv 8 (ring_Check_o v35), obSh 8 (ring_Check_o v35), [76, 77], [4]⟩ (by kernel_rfl) (Step_call_own (x := ring_Check_x v35) (ob := ring_Check_o v35) (f := 14) (args := [(.tmp 77)]) (fn := Tryd.f14) (ys := [.agg [.val (.int .i64 v28.Z), .own 4 0 3 v28.Read.length]]) (zs := [.agg [.val (.int .i64 v28.Z), .lst v28.Read.length (rowf e_Reading default v28.Read)]]) (p := ((True ∧ (v28.Read.length ≤ v28.Read.length ∧ True)) ∧ True)) 8 (by kernel_rfl) (by kernel_rfl) (by kernel_rfl) (by kernel_rfl) (by kernel_rfl) (by kernel_rfl) ⟨⟨trivial, ⟨(Nat.le_refl _), trivial⟩⟩, trivial⟩ rfl (ring_Check_ok (Ring.mk v28.Z v28.Read) v35 h36) (by kernel_rfl) (by kernel_rfl) (by kernel_rfl) (ring_Check_f v35)) ?_
                        refine A_pure (.v (.one (.val (.bool (v35 != 0))))) [76, 78] [] (True) (by kernel_rfl) trivial ?_
                        refine A_pure (.v (.one (.val (.bool (v35 != 0))))) [76, 79] [] (True) (by kernel_rfl) trivial ?_
                        refine A_pureE (boolV false) (boolV (v35 != 0)) (congrArg boolV b37) [80] [] (True) (by kernel_rfl) trivial ?_
                        refine A_pure (.v (.agg [.val (.int .i64 a1.Z), tl e_Reading default a1.Read])) [3, 81] [1] (True) (by kernel_rfl) trivial ?_
                        refine A_run ⟨true, (ring_Clean_x v38).sh 8, obNv 8 (ring_Clean_o v38), obSh 8 (ring_Clean_o v38), [81, 82], []⟩ (by kernel_rfl) (Step_call (x := ring_Clean_x v38) (ob := ring_Clean_o v38) (f := 17) (args := [(.tmp 82), (.const (.int .i64 1200))]) (fn := Tryd.f17) (ys := [.agg [.val (.int .i64 a1.Z), tl e_Reading default a1.Read], .one (.val (.int .i64 1200))]) 8 (by kernel_rfl) (by kernel_rfl) (by kernel_rfl) (by kernel_rfl) (by kernel_rfl) (by kernel_rfl) rfl (ring_Clean_ok a1 1200 v38 h39) (by kernel_rfl) (by kernel_rfl)) ?_
                        refine A_pure (.v (.agg [.val (.int .i64 a1.Z), tl e_Reading default a1.Read])) [3, 81] [1] (True) (by kernel_rfl) trivial ?_
                        refine A_run ⟨true, (ref12_Same_x v40).sh 9, obNv 9 (ref12_Same_o v40), obSh 9 (ref12_Same_o v40), [81, 83, 84], [8]⟩ (by kernel_rfl) (Step_call_own (x := ref12_Same_x v40) (ob := ref12_Same_o v40) (f := 16) (args := [(.tmp 83), (.tmp 84)]) (fn := Tryd.f16) (ys := [.agg [.val (.int .i64 v38.Z), .own 8 0 3 v38.Read.length], .agg [.val (.int .i64 a1.Z), tl e_Reading default a1.Read]]) (zs := [.agg [.val (.int .i64 v38.Z), .lst v38.Read.length (rowf e_Reading default v38.Read)], .agg [.val (.int .i64 a1.Z), tl e_Reading default a1.Read]]) (p := ((True ∧ (v38.Read.length ≤ v38.Read.length ∧ True)) ∧ ((True ∧ (True ∧ True)) ∧ True))) 9 (by kernel_rfl) (by kernel_rfl) (by kernel_rfl) (by kernel_rfl) (by kernel_rfl) (by kernel_rfl) ⟨⟨trivial, ⟨(Nat.le_refl _), trivial⟩⟩, ⟨⟨trivial, ⟨trivial, trivial⟩⟩, trivial⟩⟩ rfl (ref12_Same_ok (Ring.mk v38.Z v38.Read) a1 v40 h41) (by kernel_rfl) (by kernel_rfl) (by kernel_rfl) (ref12_Same_f v40)) ?_
                        refine A_pure (.v (.one (.val (.bool (!v40))))) [81, 85] [] (True) (by kernel_rfl) trivial ?_
                        refine A_pure (.v (.one (.val (.bool (!v40))))) [81, 86] [] (True) (by kernel_rfl) trivial ?_
                        exact A_end
                      · exact J_mk (!v40) hm (by kernel_rfl) (by kernel_rfl)
  · refine R_region 1 (rg Tryd.f7 [1, 0, 0]) (by kernel_rfl) ?_
    have k5 : opsOk 135 (rg Tryd.f7 [1, 0, 0]) = true := by kernel_rfl
    refine P_op k5 (.v (.agg [.val (.int .i64 a1.Z), tl e_Reading default a1.Read])) (by kernel_rfl) ?_
    obtain ⟨v6, h7, hm⟩ := bind_s hm
    refine P_step k5 (obNv 3 (ring_Check_o v6)) (obSh 3 (ring_Check_o v6)) ((ring_Check_x v6).sh 3) (by kernel_rfl) (Step_call (x := ring_Check_x v6) (ob := ring_Check_o v6) (f := 14) (args := [(.tmp 12)]) (fn := Tryd.f14) (ys := [.agg [.val (.int .i64 a1.Z), tl e_Reading default a1.Read]]) 3 (by kernel_rfl) (by kernel_rfl) (by kernel_rfl) (by kernel_rfl) (by kernel_rfl) (by kernel_rfl) rfl (ring_Check_ok a1 v6 h7) (by kernel_rfl) (by kernel_rfl)) ?_
    refine P_op k5 (.v (.one (.val (.bool (v6 != 0))))) (by kernel_rfl) ?_
    refine P_op k5 (.v (.one (.val (.bool (v6 != 0))))) (by kernel_rfl) ?_
    refine HOps_bool 15 (v6 != 0) (by kernel_rfl) (fun b8 => ?_) (fun b8 => ?_)
    · replace hm := bif_t b8 hm
      refine P_skip k5 (by kernel_rfl) ?_
      refine P_skip k5 (by kernel_rfl) ?_
      refine P_skip k5 (by kernel_rfl) ?_
      refine P_skip k5 (by kernel_rfl) ?_
      refine P_op k5 (.v (.one (.val (.bool true)))) (by kernel_rfl) ?_
      refine HOps_end (by kernel_rfl) ?_
      exact J_mk (true) hm (by kernel_rfl) (by kernel_rfl)
    · replace hm := bif_f b8 hm
      refine P_op k5 (.v (.one (.bptr 1 0 1))) (by kernel_rfl) ?_
      refine P_op k5 (.v (.one (tl e_Reading default a1.Read))) (by kernel_rfl) ?_
      refine P_op k5 (.v (.one (.val (.int .i64 ((a1.Read.length : Nat) : Int))))) (by kernel_rfl) ?_
      refine P_op k5 (.v (.one (.val (.bool (decide (((a1.Read.length : Nat) : Int) > 32)))))) (by kernel_rfl) ?_
      refine P_op k5 (.v (.one (.val (.bool (decide (((a1.Read.length : Nat) : Int) > 32)))))) (by kernel_rfl) ?_
      refine HOps_end (by kernel_rfl) ?_
      exact J_mk (decide (((a1.Read.length : Nat) : Int) > 32)) hm (by kernel_rfl) (by kernel_rfl)

end Saw
end Go.SL
