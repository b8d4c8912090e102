import Derived.Test.YtfpgdgmcmkileaaDoorRBase
import Derived.Test.YtfpgdgmcmkileaaDoorRA1
import Derived.Test.YtfpgdgmcmkileaaDoorRA5
import Derived.Test.YtfpgdgmcmkileaaDoorRB2
import Derived.Test.YtfpgdgmcmkileaaDoorRB1
set_option linter.unusedVariables false
set_option linter.unusedSimpArgs false
namespace Go.SL
namespace Saw
open Go.Proofs
set_option maxHeartbeats 4000000

def law12_RingChecks_x (r : Bool) : V := .v (.one (.val (.bool r)))

def law12_RingChecks_o (r : Bool) : List (Nat × (Nat × O)) := []

theorem law12_RingChecks_f (r : Bool) : Frozen (law12_RingChecks_o r) := by
  intro i k o h
  unfold law12_RingChecks_o at h
  cases h

def law12_RingChecks_k1_S (x25 : Bool) : St :=
  { slots := [(2, .v (.one (.val (.bool x25))))], objs := [] }

set_option maxRecDepth 100000 in
theorem law12_RingChecks_ok (a1 : Ring) (r : Bool) (hm : law12_RingChecks a1 = some r) : Ct Tryd.prog globs 3 [.agg [.val (.int .i64 a1.Z), tl e_Reading default a1.Read]] (law12_RingChecks_x r) (law12_RingChecks_o r) := by
  unfold law12_RingChecks at hm
  refine Ct_of_H (fn := Tryd.f3) (c := nd Tryd.f3 []) mixed (by kernel_rfl) (by kernel_rfl) (by kernel_rfl) fun w A hg => ?_
  show H ({ P := Tryd.prog, w0 := w, nt := 39, A := A, globs := globs, mixed := mixed, glob := hg } : Ctx) _ _ _
  refine R_seq (nd Tryd.f3 [0]) (nd Tryd.f3 [1]) (by kernel_rfl) ?_
  refine R_region 0 (rg Tryd.f3 [0]) (by kernel_rfl) ?_
  have k2 : opsOk 39 (rg Tryd.f3 [0]) = true := by kernel_rfl
  refine P_step k2 ([(1, 0)]) ([(1, (0, .box 24 [.val (.int .i64 a1.Z), tl e_Reading default a1.Read]))]) (.v (.one (.bptr 1 0 0))) (by kernel_rfl) (Step_box 24 (.tmp 0) 1 0 (.agg [.val (.int .i64 a1.Z), tl e_Reading default a1.Read]) (by kernel_rfl) (by kernel_rfl) (by kernel_rfl)) ?_
  refine P_op k2 (.v (.one (.val (.bool false)))) (by kernel_rfl) ?_
  refine HOps_end (by kernel_rfl) ?_
  refine R_seq (nd Tryd.f3 [1, 0]) (nd Tryd.f3 [1, 1]) (by kernel_rfl) ?_
  refine R_seq (nd Tryd.f3 [1, 0, 0]) (nd Tryd.f3 [1, 0, 1]) (by kernel_rfl) ?_
  refine R_region 1 (rg Tryd.f3 [1, 0, 0]) (by kernel_rfl) ?_
  have k3 : opsOk 39 (rg Tryd.f3 [1, 0, 0]) = true := by kernel_rfl
  refine P_op k3 (.v (.agg [.val (.int .i64 a1.Z), tl e_Reading default a1.Read])) (by kernel_rfl) ?_
  obtain ⟨v4, h5, hm⟩ := bind_s hm
  refine P_step k3 (obNv 2 (law12_few_o v4)) (obSh 2 (law12_few_o v4)) ((law12_few_x v4).sh 2) (by kernel_rfl) (Step_call (x := law12_few_x v4) (ob := law12_few_o v4) (f := 10) (args := [(.tmp 7)]) (fn := Tryd.f10) (ys := [.agg [.val (.int .i64 a1.Z), tl e_Reading default a1.Read]]) 2 (by kernel_rfl) (by kernel_rfl) (by kernel_rfl) (by kernel_rfl) (by kernel_rfl) (by kernel_rfl) rfl (law12_few_ok a1 v4 h5) (by kernel_rfl) (by kernel_rfl)) ?_
  refine P_op k3 (.v (.one (.val (.bool (!v4))))) (by kernel_rfl) ?_
  refine HOps_end (by kernel_rfl) ?_
  refine R_cond (.tmp 9) (nd Tryd.f3 [1, 0, 1, 0]) (nd Tryd.f3 [1, 0, 1, 1]) (by kernel_rfl) (!v4) (by kernel_rfl) (fun b6 => ?_) (fun b6 => ?_)
  · replace hm := bif_t b6 hm
    refine R_seq (nd Tryd.f3 [1, 0, 1, 0, 0]) (nd Tryd.f3 [1, 0, 1, 0, 1]) (by kernel_rfl) ?_
    refine R_region 2 (rg Tryd.f3 [1, 0, 1, 0, 0]) (by kernel_rfl) ?_
    have k7 : opsOk 39 (rg Tryd.f3 [1, 0, 1, 0, 0]) = true := by kernel_rfl
    obtain ⟨v8, h9, hm⟩ := bind_s hm
    refine P_step k7 (obNv 2 (law12_awake_o v8)) (obSh 2 (law12_awake_o v8)) ((law12_awake_x v8).sh 2) (by kernel_rfl) (Step_call (x := law12_awake_x v8) (ob := law12_awake_o v8) (f := 11) (args := []) (fn := Tryd.f11) (ys := []) 2 (by kernel_rfl) (by kernel_rfl) (by kernel_rfl) (by kernel_rfl) (by kernel_rfl) (by kernel_rfl) rfl (law12_awake_ok v8 h9) (by kernel_rfl) (by kernel_rfl)) ?_
    refine P_op k7 (.v (.one (.val (.bool v8)))) (by kernel_rfl) ?_
    refine HOps_end (by kernel_rfl) ?_
    obtain rfl := Option.some.inj hm
    refine R_ret (by kernel_rfl) ?_
    exact ret_mk (by kernel_rfl) (by kernel_rfl)
  · replace hm := bif_f b6 hm
    refine R_skip (by kernel_rfl) ?_
    refine R_seq (nd Tryd.f3 [1, 1, 0]) (nd Tryd.f3 [1, 1, 1]) (by kernel_rfl) ?_
    refine R_region 3 (rg Tryd.f3 [1, 1, 0]) (by kernel_rfl) ?_
    have k10 : opsOk 39 (rg Tryd.f3 [1, 1, 0]) = true := by kernel_rfl
    refine P_op k10 (.v (.agg [.val (.int .i64 a1.Z), tl e_Reading default a1.Read])) (by kernel_rfl) ?_
    obtain ⟨v11, h12, hm⟩ := bind_s hm
    refine P_step k10 (obNv 2 (ring_Gaps_o v11)) (obSh 2 (ring_Gaps_o v11)) ((ring_Gaps_x v11).sh 2) (by kernel_rfl) (Step_call (x := ring_Gaps_x v11) (ob := ring_Gaps_o v11) (f := 12) (args := [(.tmp 12)]) (fn := Tryd.f12) (ys := [.agg [.val (.int .i64 a1.Z), tl e_Reading default a1.Read]]) 2 (by kernel_rfl) (by kernel_rfl) (by kernel_rfl) (by kernel_rfl) (by kernel_rfl) (by kernel_rfl) rfl (ring_Gaps_ok a1 v11 h12) (by kernel_rfl) (by kernel_rfl)) ?_
    refine P_op k10 (.tup [.one (.val (.int .i64 v11.1)), .one (.val (.int .i64 v11.2))]) (by kernel_rfl) ?_
    refine P_op k10 (.v (.one (.val (.int .i64 v11.1)))) (by kernel_rfl) ?_
    refine P_op k10 (.v (.one (.val (.int .i64 v11.2)))) (by kernel_rfl) ?_
    refine P_op k10 (.v (.one (.val (.int .i64 v11.1)))) (by kernel_rfl) ?_
    refine P_op k10 (.v (.one (.val (.int .i64 v11.2)))) (by kernel_rfl) ?_
    refine HOps_end (by kernel_rfl) ?_
    refine R_seq (nd Tryd.f3 [1, 1, 1, 0]) (nd Tryd.f3 [1, 1, 1, 1]) (by kernel_rfl) ?_
    refine R_region 4 (rg Tryd.f3 [1, 1, 1, 0]) (by kernel_rfl) ?_
    have k13 : opsOk 39 (rg Tryd.f3 [1, 1, 1, 0]) = true := by kernel_rfl
    refine P_op k13 (.v (.agg [.val (.int .i64 a1.Z), tl e_Reading default a1.Read])) (by kernel_rfl) ?_
    obtain ⟨v14, h15, hm⟩ := bind_s hm
    refine P_step k13 (obNv 2 (ref12_Gaps_o v14)) (obSh 2 (ref12_Gaps_o v14)) ((ref12_Gaps_x v14).sh 2) (by kernel_rfl) (Step_call (x := ref12_Gaps_x v14) (ob := ref12_Gaps_o v14) (f := 13) (args := [(.tmp 17)]) (fn := Tryd.f13) (ys := [.agg [.val (.int .i64 a1.Z), tl e_Reading default a1.Read]]) 2 (by kernel_rfl) (by kernel_rfl) (by kernel_rfl) (by kernel_rfl) (by kernel_rfl) (by kernel_rfl) rfl (ref12_Gaps_ok a1 v14 h15) (by kernel_rfl) (by kernel_rfl)) ?_
    refine P_op k13 (.tup [.one (.val (.int .i64 v14.1)), .one (.val (.int .i64 v14.2))]) (by kernel_rfl) ?_
    refine P_op k13 (.v (.one (.val (.int .i64 v14.1)))) (by kernel_rfl) ?_
    refine P_op k13 (.v (.one (.val (.int .i64 v14.2)))) (by kernel_rfl) ?_
    refine P_op k13 (.v (.one (.val (.int .i64 v14.1)))) (by kernel_rfl) ?_
    refine P_op k13 (.v (.one (.val (.int .i64 v14.2)))) (by kernel_rfl) ?_
    refine HOps_end (by kernel_rfl) ?_
    refine R_join (ι := Bool) (nd Tryd.f3 [1, 1, 1, 1, 0]) (nd Tryd.f3 [1, 1, 1, 1, 1]) (by kernel_rfl) (fun p => law12_RingChecks_k1_S p) (fun p => law12_RingChecks_k1 p = some r) ?_ ?_
    · rintro x25 hm
      show H _ (law12_RingChecks_k1_S x25) (nd Tryd.f3 [1, 1, 1, 1, 1]) _
      obtain rfl := Option.some.inj hm
      refine R_ret (by kernel_rfl) ?_
      exact ret_mk (by kernel_rfl) (by kernel_rfl)
    · obtain ⟨v16, h17, hm⟩ := bind_s hm
      obtain ⟨v18, h19, hm⟩ := bind_s hm
      rcases Bool.eq_false_or_eq_true (v16 == v18) with b20 | b20
      · replace hm := bif_t b20 hm
        rcases Bool.eq_false_or_eq_true (v11.1 == v14.1) with b21 | b21
        · replace hm := bif_t b21 hm
          rcases Bool.eq_false_or_eq_true (v11.2 == v14.2) with b22 | b22
          · replace hm := bif_t b22 hm
            obtain ⟨v23, h24, hm⟩ := bind_s hm
            refine R_draw 5 (rg Tryd.f3 [1, 1, 1, 1, 0]) (by kernel_rfl) [⟨true, .v (.agg [.val (.int .i64 a1.Z), tl e_Reading default a1.Read]), [], [], [1], [1]⟩, ⟨true, (ring_Check_x v16).sh 2, obNv 2 (ring_Check_o v16), obSh 2 (ring_Check_o v16), [21], []⟩, ⟨true, .v (.agg [.val (.int .i64 a1.Z), tl e_Reading default a1.Read]), [], [], [1], [1]⟩, ⟨true, (ref12_Check_x v18).sh 2, obNv 2 (ref12_Check_o v18), obSh 2 (ref12_Check_o v18), [23], []⟩, ⟨true, .v (.one (.val (.bool (v16 == v18)))), [], [], [22, 24], []⟩, ⟨true, boolV true, [], [], [25], []⟩, ⟨true, .v (.one (.val (.int .i64 v11.1))), [], [], [3, 26], []⟩, ⟨true, .v (.one (.val (.int .i64 v14.1))), [], [], [5, 26], []⟩, ⟨true, .v (.one (.val (.bool (v11.1 == v14.1)))), [], [], [26, 27, 28], []⟩, ⟨true, .v (.one (.val (.bool (v11.1 == v14.1)))), [], [], [26, 29], []⟩, ⟨true, boolV true, [], [], [30], []⟩, ⟨true, .v (.one (.val (.int .i64 v11.2))), [], [], [4, 31], []⟩, ⟨true, .v (.one (.val (.int .i64 v14.2))), [], [], [6, 31], []⟩, ⟨true, .v (.one (.val (.bool (v11.2 == v14.2)))), [], [], [31, 32, 33], []⟩, ⟨true, .v (.one (.val (.bool (v11.2 == v14.2)))), [], [], [31, 34], []⟩, ⟨true, boolV true, [], [], [35], []⟩, ⟨true, (law12_awake_x v23).sh 2, obNv 2 (law12_awake_o v23), obSh 2 (law12_awake_o v23), [36], []⟩, ⟨true, .v (.one (.val (.bool v23))), [], [], [36, 37], []⟩, ⟨true, .v (.one (.val (.bool v23))), [], [], [38], []⟩] [0, 1, 0, 7, 15, 31, 63, 63, 255, 511, 1023, 2047, 2047, 8191, 16383, 32767, 65535, 131071, 262143] (by kernel_rfl) (by kernel_rfl) (by kernel_rfl) (by kernel_rfl) (by kernel_rfl) (by kernel_rfl) ?_ ?_
            · refine A_pure (.v (.agg [.val (.int .i64 a1.Z), tl e_Reading default a1.Read])) [1] [1] (True) (by kernel_rfl) trivial ?_
              refine A_run ⟨true, (ring_Check_x v16).sh 2, obNv 2 (ring_Check_o v16), obSh 2 (ring_Check_o v16), [21], []⟩ (by kernel_rfl) (Step_call (x := ring_Check_x v16) (ob := ring_Check_o v16) (f := 14) (args := [(.tmp 21)]) (fn := Tryd.f14) (ys := [.agg [.val (.int .i64 a1.Z), tl e_Reading default a1.Read]]) 2 (by kernel_rfl) (by kernel_rfl) (by kernel_rfl) (by kernel_rfl) (by kernel_rfl) (by kernel_rfl) rfl (ring_Check_ok a1 v16 h17) (by kernel_rfl) (by kernel_rfl)) ?_
              refine A_pure (.v (.agg [.val (.int .i64 a1.Z), tl e_Reading default a1.Read])) [1] [1] (True) (by kernel_rfl) trivial ?_
              refine A_run ⟨true, (ref12_Check_x v18).sh 2, obNv 2 (ref12_Check_o v18), obSh 2 (ref12_Check_o v18), [23], []⟩ (by kernel_rfl) (Step_call (x := ref12_Check_x v18) (ob := ref12_Check_o v18) (f := 15) (args := [(.tmp 23)]) (fn := Tryd.f15) (ys := [.agg [.val (.int .i64 a1.Z), tl e_Reading default a1.Read]]) 2 (by kernel_rfl) (by kernel_rfl) (by kernel_rfl) (by kernel_rfl) (by kernel_rfl) (by kernel_rfl) rfl (ref12_Check_ok a1 v18 h19) (by kernel_rfl) (by kernel_rfl)) ?_
              refine A_pure (.v (.one (.val (.bool (v16 == v18))))) [22, 24] [] (True) (by kernel_rfl) trivial ?_
              refine A_pureE (boolV true) (boolV (v16 == v18)) (congrArg boolV b20) [25] [] (True) (by kernel_rfl) trivial ?_
              refine A_pure (.v (.one (.val (.int .i64 v11.1)))) [3, 26] [] (True) (by kernel_rfl) trivial ?_
              refine A_pure (.v (.one (.val (.int .i64 v14.1)))) [5, 26] [] (True) (by kernel_rfl) trivial ?_
              refine A_pure (.v (.one (.val (.bool (v11.1 == v14.1))))) [26, 27, 28] [] (True) (by kernel_rfl) trivial ?_
              refine A_pure (.v (.one (.val (.bool (v11.1 == v14.1))))) [26, 29] [] (True) (by kernel_rfl) trivial ?_
              refine A_pureE (boolV true) (boolV (v11.1 == v14.1)) (congrArg boolV b21) [30] [] (True) (by kernel_rfl) trivial ?_
              refine A_pure (.v (.one (.val (.int .i64 v11.2)))) [4, 31] [] (True) (by kernel_rfl) trivial ?_
              refine A_pure (.v (.one (.val (.int .i64 v14.2)))) [6, 31] [] (True) (by kernel_rfl) trivial ?_
              refine A_pure (.v (.one (.val (.bool (v11.2 == v14.2))))) [31, 32, 33] [] (True) (by kernel_rfl) trivial ?_
              refine A_pure (.v (.one (.val (.bool (v11.2 == v14.2))))) [31, 34] [] (True) (by kernel_rfl) trivial ?_
              refine A_pureE (boolV true) (boolV (v11.2 == v14.2)) (congrArg boolV b22) [35] [] (True) (by kernel_rfl) trivial ?_
              refine A_run ⟨true, (law12_awake_x v23).sh 2, obNv 2 (law12_awake_o v23), obSh 2 (law12_awake_o v23), [36], []⟩ (by kernel_rfl) (Step_call (x := law12_awake_x v23) (ob := law12_awake_o v23) (f := 11) (args := []) (fn := Tryd.f11) (ys := []) 2 (by kernel_rfl) (by kernel_rfl) (by kernel_rfl) (by kernel_rfl) (by kernel_rfl) (by kernel_rfl) rfl (law12_awake_ok v23 h24) (by kernel_rfl) (by kernel_rfl)) ?_
              refine A_pure (.v (.one (.val (.bool v23)))) [36, 37] [] (True) (by kernel_rfl) trivial ?_
              refine A_pure (.v (.one (.val (.bool v23)))) [38] [] (True) (by kernel_rfl) trivial ?_
              exact A_end
            · exact J_mk (v23) hm (by kernel_rfl) (by kernel_rfl)
          · replace hm := bif_f b22 hm
            refine R_draw 5 (rg Tryd.f3 [1, 1, 1, 1, 0]) (by kernel_rfl) [⟨true, .v (.agg [.val (.int .i64 a1.Z), tl e_Reading default a1.Read]), [], [], [1], [1]⟩, ⟨true, (ring_Check_x v16).sh 2, obNv 2 (ring_Check_o v16), obSh 2 (ring_Check_o v16), [21], []⟩, ⟨true, .v (.agg [.val (.int .i64 a1.Z), tl e_Reading default a1.Read]), [], [], [1], [1]⟩, ⟨true, (ref12_Check_x v18).sh 2, obNv 2 (ref12_Check_o v18), obSh 2 (ref12_Check_o v18), [23], []⟩, ⟨true, .v (.one (.val (.bool (v16 == v18)))), [], [], [22, 24], []⟩, ⟨true, boolV true, [], [], [25], []⟩, ⟨true, .v (.one (.val (.int .i64 v11.1))), [], [], [3, 26], []⟩, ⟨true, .v (.one (.val (.int .i64 v14.1))), [], [], [5, 26], []⟩, ⟨true, .v (.one (.val (.bool (v11.1 == v14.1)))), [], [], [26, 27, 28], []⟩, ⟨true, .v (.one (.val (.bool (v11.1 == v14.1)))), [], [], [26, 29], []⟩, ⟨true, boolV true, [], [], [30], []⟩, ⟨true, .v (.one (.val (.int .i64 v11.2))), [], [], [4, 31], []⟩, ⟨true, .v (.one (.val (.int .i64 v14.2))), [], [], [6, 31], []⟩, ⟨true, .v (.one (.val (.bool (v11.2 == v14.2)))), [], [], [31, 32, 33], []⟩, ⟨true, .v (.one (.val (.bool (v11.2 == v14.2)))), [], [], [31, 34], []⟩, ⟨true, boolV false, [], [], [35], []⟩, ⟨false, .undef, [], [], [36], []⟩, ⟨true, .v (.one (.val (.bool false))), [], [], [36, 37], []⟩, ⟨true, .v (.one (.val (.bool false))), [], [], [38], []⟩] [0, 1, 0, 7, 15, 31, 63, 63, 255, 511, 1023, 2047, 2047, 8191, 16383, 32767, 65535, 131071, 262143] (by kernel_rfl) (by kernel_rfl) (by kernel_rfl) (by kernel_rfl) (by kernel_rfl) (by kernel_rfl) ?_ ?_
            · refine A_pure (.v (.agg [.val (.int .i64 a1.Z), tl e_Reading default a1.Read])) [1] [1] (True) (by kernel_rfl) trivial ?_
              refine A_run ⟨true, (ring_Check_x v16).sh 2, obNv 2 (ring_Check_o v16), obSh 2 (ring_Check_o v16), [21], []⟩ (by kernel_rfl) (Step_call (x := ring_Check_x v16) (ob := ring_Check_o v16) (f := 14) (args := [(.tmp 21)]) (fn := Tryd.f14) (ys := [.agg [.val (.int .i64 a1.Z), tl e_Reading default a1.Read]]) 2 (by kernel_rfl) (by kernel_rfl) (by kernel_rfl) (by kernel_rfl) (by kernel_rfl) (by kernel_rfl) rfl (ring_Check_ok a1 v16 h17) (by kernel_rfl) (by kernel_rfl)) ?_
              refine A_pure (.v (.agg [.val (.int .i64 a1.Z), tl e_Reading default a1.Read])) [1] [1] (True) (by kernel_rfl) trivial ?_
              refine A_run ⟨true, (ref12_Check_x v18).sh 2, obNv 2 (ref12_Check_o v18), obSh 2 (ref12_Check_o v18), [23], []⟩ (by kernel_rfl) (Step_call (x := ref12_Check_x v18) (ob := ref12_Check_o v18) (f := 15) (args := [(.tmp 23)]) (fn := Tryd.f15) (ys := [.agg [.val (.int .i64 a1.Z), tl e_Reading default a1.Read]]) 2 (by kernel_rfl) (by kernel_rfl) (by kernel_rfl) (by kernel_rfl) (by kernel_rfl) (by kernel_rfl) rfl (ref12_Check_ok a1 v18 h19) (by kernel_rfl) (by kernel_rfl)) ?_
              refine A_pure (.v (.one (.val (.bool (v16 == v18))))) [22, 24] [] (True) (by kernel_rfl) trivial ?_
              refine A_pureE (boolV true) (boolV (v16 == v18)) (congrArg boolV b20) [25] [] (True) (by kernel_rfl) trivial ?_
              refine A_pure (.v (.one (.val (.int .i64 v11.1)))) [3, 26] [] (True) (by kernel_rfl) trivial ?_
              refine A_pure (.v (.one (.val (.int .i64 v14.1)))) [5, 26] [] (True) (by kernel_rfl) trivial ?_
              refine A_pure (.v (.one (.val (.bool (v11.1 == v14.1))))) [26, 27, 28] [] (True) (by kernel_rfl) trivial ?_
              refine A_pure (.v (.one (.val (.bool (v11.1 == v14.1))))) [26, 29] [] (True) (by kernel_rfl) trivial ?_
              refine A_pureE (boolV true) (boolV (v11.1 == v14.1)) (congrArg boolV b21) [30] [] (True) (by kernel_rfl) trivial ?_
              refine A_pure (.v (.one (.val (.int .i64 v11.2)))) [4, 31] [] (True) (by kernel_rfl) trivial ?_
              refine A_pure (.v (.one (.val (.int .i64 v14.2)))) [6, 31] [] (True) (by kernel_rfl) trivial ?_
              refine A_pure (.v (.one (.val (.bool (v11.2 == v14.2))))) [31, 32, 33] [] (True) (by kernel_rfl) trivial ?_
              refine A_pure (.v (.one (.val (.bool (v11.2 == v14.2))))) [31, 34] [] (True) (by kernel_rfl) trivial ?_
              refine A_pureE (boolV false) (boolV (v11.2 == v14.2)) (congrArg boolV b22) [35] [] (True) (by kernel_rfl) trivial ?_
              refine A_skip [36] (by kernel_rfl) ?_
              refine A_pure (.v (.one (.val (.bool false)))) [36, 37] [] (True) (by kernel_rfl) trivial ?_
              refine A_pure (.v (.one (.val (.bool false)))) [38] [] (True) (by kernel_rfl) trivial ?_
              exact A_end
            · exact J_mk (false) hm (by kernel_rfl) (by kernel_rfl)
        · replace hm := bif_f b21 hm
          refine R_draw 5 (rg Tryd.f3 [1, 1, 1, 1, 0]) (by kernel_rfl) [⟨true, .v (.agg [.val (.int .i64 a1.Z), tl e_Reading default a1.Read]), [], [], [1], [1]⟩, ⟨true, (ring_Check_x v16).sh 2, obNv 2 (ring_Check_o v16), obSh 2 (ring_Check_o v16), [21], []⟩, ⟨true, .v (.agg [.val (.int .i64 a1.Z), tl e_Reading default a1.Read]), [], [], [1], [1]⟩, ⟨true, (ref12_Check_x v18).sh 2, obNv 2 (ref12_Check_o v18), obSh 2 (ref12_Check_o v18), [23], []⟩, ⟨true, .v (.one (.val (.bool (v16 == v18)))), [], [], [22, 24], []⟩, ⟨true, boolV true, [], [], [25], []⟩, ⟨true, .v (.one (.val (.int .i64 v11.1))), [], [], [3, 26], []⟩, ⟨true, .v (.one (.val (.int .i64 v14.1))), [], [], [5, 26], []⟩, ⟨true, .v (.one (.val (.bool (v11.1 == v14.1)))), [], [], [26, 27, 28], []⟩, ⟨true, .v (.one (.val (.bool (v11.1 == v14.1)))), [], [], [26, 29], []⟩, ⟨true, boolV false, [], [], [30], []⟩, ⟨false, .undef, [], [], [31], []⟩, ⟨false, .undef, [], [], [31], []⟩, ⟨false, .undef, [], [], [31], []⟩, ⟨true, .v (.one (.val (.bool false))), [], [], [31, 34], []⟩, ⟨true, .v (.one (.val (.bool false))), [], [], [35], []⟩, ⟨false, .undef, [], [], [36], []⟩, ⟨true, .v (.one (.val (.bool false))), [], [], [36, 37], []⟩, ⟨true, .v (.one (.val (.bool false))), [], [], [38], []⟩] [0, 1, 0, 7, 15, 31, 63, 63, 255, 511, 1023, 2047, 2047, 8191, 16383, 32767, 65535, 131071, 262143] (by kernel_rfl) (by kernel_rfl) (by kernel_rfl) (by kernel_rfl) (by kernel_rfl) (by kernel_rfl) ?_ ?_
          · refine A_pure (.v (.agg [.val (.int .i64 a1.Z), tl e_Reading default a1.Read])) [1] [1] (True) (by kernel_rfl) trivial ?_
            refine A_run ⟨true, (ring_Check_x v16).sh 2, obNv 2 (ring_Check_o v16), obSh 2 (ring_Check_o v16), [21], []⟩ (by kernel_rfl) (Step_call (x := ring_Check_x v16) (ob := ring_Check_o v16) (f := 14) (args := [(.tmp 21)]) (fn := Tryd.f14) (ys := [.agg [.val (.int .i64 a1.Z), tl e_Reading default a1.Read]]) 2 (by kernel_rfl) (by kernel_rfl) (by kernel_rfl) (by kernel_rfl) (by kernel_rfl) (by kernel_rfl) rfl (ring_Check_ok a1 v16 h17) (by kernel_rfl) (by kernel_rfl)) ?_
            refine A_pure (.v (.agg [.val (.int .i64 a1.Z), tl e_Reading default a1.Read])) [1] [1] (True) (by kernel_rfl) trivial ?_
            refine A_run ⟨true, (ref12_Check_x v18).sh 2, obNv 2 (ref12_Check_o v18), obSh 2 (ref12_Check_o v18), [23], []⟩ (by kernel_rfl) (Step_call (x := ref12_Check_x v18) (ob := ref12_Check_o v18) (f := 15) (args := [(.tmp 23)]) (fn := Tryd.f15) (ys := [.agg [.val (.int .i64 a1.Z), tl e_Reading default a1.Read]]) 2 (by kernel_rfl) (by kernel_rfl) (by kernel_rfl) (by kernel_rfl) (by kernel_rfl) (by kernel_rfl) rfl (ref12_Check_ok a1 v18 h19) (by kernel_rfl) (by kernel_rfl)) ?_
            refine A_pure (.v (.one (.val (.bool (v16 == v18))))) [22, 24] [] (True) (by kernel_rfl) trivial ?_
            refine A_pureE (boolV true) (boolV (v16 == v18)) (congrArg boolV b20) [25] [] (True) (by kernel_rfl) trivial ?_
            refine A_pure (.v (.one (.val (.int .i64 v11.1)))) [3, 26] [] (True) (by kernel_rfl) trivial ?_
            refine A_pure (.v (.one (.val (.int .i64 v14.1)))) [5, 26] [] (True) (by kernel_rfl) trivial ?_
            refine A_pure (.v (.one (.val (.bool (v11.1 == v14.1))))) [26, 27, 28] [] (True) (by kernel_rfl) trivial ?_
            refine A_pure (.v (.one (.val (.bool (v11.1 == v14.1))))) [26, 29] [] (True) (by kernel_rfl) trivial ?_
            refine A_pureE (boolV false) (boolV (v11.1 == v14.1)) (congrArg boolV b21) [30] [] (True) (by kernel_rfl) trivial ?_
            refine A_skip [31] (by kernel_rfl) ?_
            refine A_skip [31] (by kernel_rfl) ?_
            refine A_skip [31] (by kernel_rfl) ?_
            refine A_pure (.v (.one (.val (.bool false)))) [31, 34] [] (True) (by kernel_rfl) trivial ?_
            refine A_pure (.v (.one (.val (.bool false)))) [35] [] (True) (by kernel_rfl) trivial ?_
            refine A_skip [36] (by kernel_rfl) ?_
            refine A_pure (.v (.one (.val (.bool false)))) [36, 37] [] (True) (by kernel_rfl) trivial ?_
            refine A_pure (.v (.one (.val (.bool false)))) [38] [] (True) (by kernel_rfl) trivial ?_
            exact A_end
          · exact J_mk (false) hm (by kernel_rfl) (by kernel_rfl)
      · replace hm := bif_f b20 hm
        refine R_draw 5 (rg Tryd.f3 [1, 1, 1, 1, 0]) (by kernel_rfl) [⟨true, .v (.agg [.val (.int .i64 a1.Z), tl e_Reading default a1.Read]), [], [], [1], [1]⟩, ⟨true, (ring_Check_x v16).sh 2, obNv 2 (ring_Check_o v16), obSh 2 (ring_Check_o v16), [21], []⟩, ⟨true, .v (.agg [.val (.int .i64 a1.Z), tl e_Reading default a1.Read]), [], [], [1], [1]⟩, ⟨true, (ref12_Check_x v18).sh 2, obNv 2 (ref12_Check_o v18), obSh 2 (ref12_Check_o v18), [23], []⟩, ⟨true, .v (.one (.val (.bool (v16 == v18)))), [], [], [22, 24], []⟩, ⟨true, boolV false, [], [], [25], []⟩, ⟨false, .undef, [], [], [26], []⟩, ⟨false, .undef, [], [], [26], []⟩, ⟨false, .undef, [], [], [26], []⟩, ⟨true, .v (.one (.val (.bool false))), [], [], [26, 29], []⟩, ⟨true, .v (.one (.val (.bool false))), [], [], [30], []⟩, ⟨false, .undef, [], [], [31], []⟩, ⟨false, .undef, [], [], [31], []⟩, ⟨false, .undef, [], [], [31], []⟩, ⟨true, .v (.one (.val (.bool false))), [], [], [31, 34], []⟩, ⟨true, .v (.one (.val (.bool false))), [], [], [35], []⟩, ⟨false, .undef, [], [], [36], []⟩, ⟨true, .v (.one (.val (.bool false))), [], [], [36, 37], []⟩, ⟨true, .v (.one (.val (.bool false))), [], [], [38], []⟩] [0, 1, 0, 7, 15, 31, 63, 63, 255, 511, 1023, 2047, 2047, 8191, 16383, 32767, 65535, 131071, 262143] (by kernel_rfl) (by kernel_rfl) (by kernel_rfl) (by kernel_rfl) (by kernel_rfl) (by kernel_rfl) ?_ ?_
        · refine A_pure (.v (.agg [.val (.int .i64 a1.Z), tl e_Reading default a1.Read])) [1] [1] (True) (by kernel_rfl) trivial ?_
          refine A_run ⟨true, (ring_Check_x v16).sh 2, obNv 2 (ring_Check_o v16), obSh 2 (ring_Check_o v16), [21], []⟩ (by kernel_rfl) (Step_call (x := ring_Check_x v16) (ob := ring_Check_o v16) (f := 14) (args := [(.tmp 21)]) (fn := Tryd.f14) (ys := [.agg [.val (.int .i64 a1.Z), tl e_Reading default a1.Read]]) 2 (by kernel_rfl) (by kernel_rfl) (by kernel_rfl) (by kernel_rfl) (by kernel_rfl) (by kernel_rfl) rfl (ring_Check_ok a1 v16 h17) (by kernel_rfl) (by kernel_rfl)) ?_
          refine A_pure (.v (.agg [.val (.int .i64 a1.Z), tl e_Reading default a1.Read])) [1] [1] (True) (by kernel_rfl) trivial ?_
          refine A_run ⟨true, (ref12_Check_x v18).sh 2, obNv 2 (ref12_Check_o v18), obSh 2 (ref12_Check_o v18), [23], []⟩ (by kernel_rfl) (Step_call (x := ref12_Check_x v18) (ob := ref12_Check_o v18) (f := 15) (args := [(.tmp 23)]) (fn := Tryd.f15) (ys := [.agg [.val (.int .i64 a1.Z), tl e_Reading default a1.Read]]) 2 (by kernel_rfl) (by kernel_rfl) (by kernel_rfl) (by kernel_rfl) (by kernel_rfl) (by kernel_rfl) rfl (ref12_Check_ok a1 v18 h19) (by kernel_rfl) (by kernel_rfl)) ?_
          refine A_pure (.v (.one (.val (.bool (v16 == v18))))) [22, 24] [] (True) (by kernel_rfl) trivial ?_
          refine A_pureE (boolV false) (boolV (v16 == v18)) (congrArg boolV b20) [25] [] (True) (by kernel_rfl) trivial ?_
          refine A_skip [26] (by kernel_rfl) ?_
          refine A_skip [26] (by kernel_rfl) ?_
          refine A_skip [26] (by kernel_rfl) ?_
          refine A_pure (.v (.one (.val (.bool false)))) [26, 29] [] (True) (by kernel_rfl) trivial ?_
          refine A_pure (.v (.one (.val (.bool false)))) [30] [] (True) (by kernel_rfl) trivial ?_
          refine A_skip [31] (by kernel_rfl) ?_
          refine A_skip [31] (by kernel_rfl) ?_
          refine A_skip [31] (by kernel_rfl) ?_
          refine A_pure (.v (.one (.val (.bool false)))) [31, 34] [] (True) (by kernel_rfl) trivial ?_
          refine A_pure (.v (.one (.val (.bool false)))) [35] [] (True) (by kernel_rfl) trivial ?_
          refine A_skip [36] (by kernel_rfl) ?_
          refine A_pure (.v (.one (.val (.bool false)))) [36, 37] [] (True) (by kernel_rfl) trivial ?_
          refine A_pure (.v (.one (.val (.bool false)))) [38] [] (True) (by kernel_rfl) trivial ?_
          exact A_end
        · exact J_mk (false) hm (by kernel_rfl) (by kernel_rfl)

end Saw
end Go.SL
