import Derived.Test.YtfpgdgmcmkileaaDoorRBase
import Derived.Test.YtfpgdgmcmkileaaDoorRA1
import Derived.Test.YtfpgdgmcmkileaaDoorRA5
import Derived.Test.YtfpgdgmcmkileaaDoorRA4
import Derived.Test.YtfpgdgmcmkileaaDoorRA3
import Derived.Test.YtfpgdgmcmkileaaDoorRB5
import Derived.Test.YtfpgdgmcmkileaaDoorRB6
set_option linter.unusedVariables false
set_option linter.unusedSimpArgs false
namespace Go.SL
namespace Saw
open Go.Proofs
set_option maxHeartbeats 4000000

def law12_RingCleans_x (r : Bool) : V := .v (.one (.val (.bool r)))

def law12_RingCleans_o (r : Bool) : List (Nat × (Nat × O)) := []

theorem law12_RingCleans_f (r : Bool) : Frozen (law12_RingCleans_o r) := by
  intro i k o h
  unfold law12_RingCleans_o at h
  cases h

def law12_RingCleans_k1_S (x28 : Bool) : St :=
  { slots := [(6, .v (.one (.val (.bool x28))))], objs := [] }

set_option maxRecDepth 100000 in
theorem law12_RingCleans_ok (a1 : Ring) (a2 : Int) (a3 : Int) (r : Bool) (hm : law12_RingCleans a1 a2 a3 = some r) : Ct Tryd.prog globs 4 [.agg [.val (.int .i64 a1.Z), tl e_Reading default a1.Read], .one (.val (.int .i64 a2)), .one (.val (.int .i64 a3))] (law12_RingCleans_x r) (law12_RingCleans_o r) := by
  unfold law12_RingCleans at hm
  refine Ct_of_H (fn := Tryd.f4) (c := nd Tryd.f4 []) mixed (by kernel_rfl) (by kernel_rfl) (by kernel_rfl) fun w A hg => ?_
  show H ({ P := Tryd.prog, w0 := w, nt := 30, A := A, globs := globs, mixed := mixed, glob := hg } : Ctx) _ _ _
  refine R_seq (nd Tryd.f4 [0]) (nd Tryd.f4 [1]) (by kernel_rfl) ?_
  refine R_region 0 (rg Tryd.f4 [0]) (by kernel_rfl) ?_
  have k4 : opsOk 30 (rg Tryd.f4 [0]) = true := by kernel_rfl
  refine P_step k4 ([(1, 0)]) ([(1, (0, .box 24 [.val (.int .i64 a1.Z), tl e_Reading default a1.Read]))]) (.v (.one (.bptr 1 0 0))) (by kernel_rfl) (Step_box 24 (.tmp 0) 1 0 (.agg [.val (.int .i64 a1.Z), tl e_Reading default a1.Read]) (by kernel_rfl) (by kernel_rfl) (by kernel_rfl)) ?_
  refine P_op k4 (.v (.one (.val (.bool false)))) (by kernel_rfl) ?_
  refine HOps_end (by kernel_rfl) ?_
  refine R_seq (nd Tryd.f4 [1, 0]) (nd Tryd.f4 [1, 1]) (by kernel_rfl) ?_
  refine R_seq (nd Tryd.f4 [1, 0, 0]) (nd Tryd.f4 [1, 0, 1]) (by kernel_rfl) ?_
  refine R_region 1 (rg Tryd.f4 [1, 0, 0]) (by kernel_rfl) ?_
  have k5 : opsOk 30 (rg Tryd.f4 [1, 0, 0]) = true := by kernel_rfl
  refine P_op k5 (.v (.agg [.val (.int .i64 a1.Z), tl e_Reading default a1.Read])) (by kernel_rfl) ?_
  obtain ⟨v6, h7, hm⟩ := bind_s hm
  refine P_step k5 (obNv 2 (law12_few_o v6)) (obSh 2 (law12_few_o v6)) ((law12_few_x v6).sh 2) (by kernel_rfl) (Step_call (x := law12_few_x v6) (ob := law12_few_o v6) (f := 10) (args := [(.tmp 7)]) (fn := Tryd.f10) (ys := [.agg [.val (.int .i64 a1.Z), tl e_Reading default a1.Read]]) 2 (by kernel_rfl) (by kernel_rfl) (by kernel_rfl) (by kernel_rfl) (by kernel_rfl) (by kernel_rfl) rfl (law12_few_ok a1 v6 h7) (by kernel_rfl) (by kernel_rfl)) ?_
  refine P_op k5 (.v (.one (.val (.bool (!v6))))) (by kernel_rfl) ?_
  refine HOps_end (by kernel_rfl) ?_
  refine R_cond (.tmp 9) (nd Tryd.f4 [1, 0, 1, 0]) (nd Tryd.f4 [1, 0, 1, 1]) (by kernel_rfl) (!v6) (by kernel_rfl) (fun b8 => ?_) (fun b8 => ?_)
  · replace hm := bif_t b8 hm
    refine R_seq (nd Tryd.f4 [1, 0, 1, 0, 0]) (nd Tryd.f4 [1, 0, 1, 0, 1]) (by kernel_rfl) ?_
    refine R_region 2 (rg Tryd.f4 [1, 0, 1, 0, 0]) (by kernel_rfl) ?_
    have k9 : opsOk 30 (rg Tryd.f4 [1, 0, 1, 0, 0]) = true := by kernel_rfl
    obtain ⟨v10, h11, hm⟩ := bind_s hm
    refine P_step k9 (obNv 2 (law12_awake_o v10)) (obSh 2 (law12_awake_o v10)) ((law12_awake_x v10).sh 2) (by kernel_rfl) (Step_call (x := law12_awake_x v10) (ob := law12_awake_o v10) (f := 11) (args := []) (fn := Tryd.f11) (ys := []) 2 (by kernel_rfl) (by kernel_rfl) (by kernel_rfl) (by kernel_rfl) (by kernel_rfl) (by kernel_rfl) rfl (law12_awake_ok v10 h11) (by kernel_rfl) (by kernel_rfl)) ?_
    refine P_op k9 (.v (.one (.val (.bool v10)))) (by kernel_rfl) ?_
    refine HOps_end (by kernel_rfl) ?_
    obtain rfl := Option.some.inj hm
    refine R_ret (by kernel_rfl) ?_
    exact ret_mk (by kernel_rfl) (by kernel_rfl)
  · replace hm := bif_f b8 hm
    refine R_skip (by kernel_rfl) ?_
    refine R_join (ι := Bool) (nd Tryd.f4 [1, 1, 0]) (nd Tryd.f4 [1, 1, 1]) (by kernel_rfl) (fun p => law12_RingCleans_k1_S p) (fun p => law12_RingCleans_k1 p = some r) ?_ ?_
    · rintro x28 hm
      show H _ (law12_RingCleans_k1_S x28) (nd Tryd.f4 [1, 1, 1]) _
      obtain rfl := Option.some.inj hm
      refine R_ret (by kernel_rfl) ?_
      exact ret_mk (by kernel_rfl) (by kernel_rfl)
    · obtain ⟨v12, h13, hm⟩ := bind_s hm
      obtain ⟨v14, h15, hm⟩ := bind_s hm
      obtain ⟨v16, h17, hm⟩ := bind_s hm
      rcases Bool.eq_false_or_eq_true v16 with b18 | b18
      · replace hm := bif_t b18 hm
        obtain ⟨v19, h20, hm⟩ := bind_s hm
        obtain ⟨v21, h22, hm⟩ := bind_s hm
        obtain ⟨v23, h24, hm⟩ := bind_s hm
        rcases Bool.eq_false_or_eq_true v23 with b25 | b25
        · replace hm := bif_t b25 hm
          obtain ⟨v26, h27, hm⟩ := bind_s hm
          refine R_draw 3 (rg Tryd.f4 [1, 1, 0]) (by kernel_rfl) [⟨true, .v (.agg [.val (.int .i64 a1.Z), tl e_Reading default a1.Read]), [], [], [3], [1]⟩, ⟨true, .v (.one (.val (.int .i64 a2))), [], [], [1], []⟩, ⟨true, (ring_Clean_x v12).sh 2, obNv 2 (ring_Clean_o v12), obSh 2 (ring_Clean_o v12), [11, 12], []⟩, ⟨true, .v (.agg [.val (.int .i64 a1.Z), tl e_Reading default a1.Read]), [], [], [3], [1]⟩, ⟨true, .v (.one (.val (.int .i64 a2))), [], [], [1], []⟩, ⟨true, (ref12_Clean_x v14).sh 3, obNv 3 (ref12_Clean_o v14), obSh 3 (ref12_Clean_o v14), [14, 15], []⟩, ⟨true, (ref12_Same_x v16).sh 4, obNv 4 (ref12_Same_o v16), obSh 4 (ref12_Same_o v16), [13, 16], [2, 3]⟩, ⟨true, boolV true, [], [], [17], []⟩, ⟨true, .v (.agg [.val (.int .i64 a1.Z), tl e_Reading default a1.Read]), [], [], [3, 18], [1]⟩, ⟨true, .v (.one (.val (.int .i64 a3))), [], [], [2, 18], []⟩, ⟨true, (ring_Turn_x v19).sh 4, obNv 4 (ring_Turn_o v19), obSh 4 (ring_Turn_o v19), [18, 19, 20], []⟩, ⟨true, .v (.agg [.val (.int .i64 a1.Z), tl e_Reading default a1.Read]), [], [], [3, 18], [1]⟩, ⟨true, .v (.one (.val (.int .i64 a3))), [], [], [2, 18], []⟩, ⟨true, (ref12_Turn_x v21).sh 5, obNv 5 (ref12_Turn_o v21), obSh 5 (ref12_Turn_o v21), [18, 22, 23], []⟩, ⟨true, (ref12_Same_x v23).sh 6, obNv 6 (ref12_Same_o v23), obSh 6 (ref12_Same_o v23), [18, 21, 24], [4, 5]⟩, ⟨true, .v (.one (.val (.bool v23))), [], [], [18, 25], []⟩, ⟨true, boolV true, [], [], [26], []⟩, ⟨true, (law12_awake_x v26).sh 6, obNv 6 (law12_awake_o v26), obSh 6 (law12_awake_o v26), [27], []⟩, ⟨true, .v (.one (.val (.bool v26))), [], [], [27, 28], []⟩, ⟨true, .v (.one (.val (.bool v26))), [], [], [29], []⟩] [0, 0, 3, 0, 0, 31, 63, 127, 255, 255, 1023, 255, 255, 8191, 16383, 32767, 65535, 131071, 262143, 524287] (by kernel_rfl) (by kernel_rfl) (by kernel_rfl) (by kernel_rfl) (by kernel_rfl) (by kernel_rfl) ?_ ?_
          · refine A_pure (.v (.agg [.val (.int .i64 a1.Z), tl e_Reading default a1.Read])) [3] [1] (True) (by kernel_rfl) trivial ?_
            refine A_pure (.v (.one (.val (.int .i64 a2)))) [1] [] (True) (by kernel_rfl) trivial ?_
            refine A_run ⟨true, (ring_Clean_x v12).sh 2, obNv 2 (ring_Clean_o v12), obSh 2 (ring_Clean_o v12), [11, 12], []⟩ (by kernel_rfl) (Step_call (x := ring_Clean_x v12) (ob := ring_Clean_o v12) (f := 17) (args := [(.tmp 11), (.tmp 12)]) (fn := Tryd.f17) (ys := [.agg [.val (.int .i64 a1.Z), tl e_Reading default a1.Read], .one (.val (.int .i64 a2))]) 2 (by kernel_rfl) (by kernel_rfl) (by kernel_rfl) (by kernel_rfl) (by kernel_rfl) (by kernel_rfl) rfl (ring_Clean_ok a1 a2 v12 h13) (by kernel_rfl) (by kernel_rfl)) ?_
            refine A_pure (.v (.agg [.val (.int .i64 a1.Z), tl e_Reading default a1.Read])) [3] [1] (True) (by kernel_rfl) trivial ?_
            refine A_pure (.v (.one (.val (.int .i64 a2)))) [1] [] (True) (by kernel_rfl) trivial ?_
            refine A_run ⟨true, (ref12_Clean_x v14).sh 3, obNv 3 (ref12_Clean_o v14), obSh 3 (ref12_Clean_o v14), [14, 15], []⟩ (by kernel_rfl) (Step_call (x := ref12_Clean_x v14) (ob := ref12_Clean_o v14) (f := 18) (args := [(.tmp 14), (.tmp 15)]) (fn := Tryd.f18) (ys := [.agg [.val (.int .i64 a1.Z), tl e_Reading default a1.Read], .one (.val (.int .i64 a2))]) 3 (by kernel_rfl) (by kernel_rfl) (by kernel_rfl) (by kernel_rfl) (by kernel_rfl) (by kernel_rfl) rfl (ref12_Clean_ok a1 a2 v14 h15) (by kernel_rfl) (by kernel_rfl)) ?_
            refine A_run ⟨true, (ref12_Same_x v16).sh 4, obNv 4 (ref12_Same_o v16), obSh 4 (ref12_Same_o v16), [13, 16], [2, 3]⟩ (by kernel_rfl) (Step_call_own (x := ref12_Same_x v16) (ob := ref12_Same_o v16) (f := 16) (args := [(.tmp 13), (.tmp 16)]) (fn := Tryd.f16) (ys := [.agg [.val (.int .i64 v12.Z), .own 2 0 3 v12.Read.length], .agg [.val (.int .i64 v14.Z), .own 3 0 3 v14.Read.length]]) (zs := [.agg [.val (.int .i64 v12.Z), .lst v12.Read.length (rowf e_Reading default v12.Read)], .agg [.val (.int .i64 v14.Z), .lst v14.Read.length (rowf e_Reading default v14.Read)]]) (p := ((True ∧ (v12.Read.length ≤ v12.Read.length ∧ True)) ∧ ((True ∧ (v14.Read.length ≤ v14.Read.length ∧ True)) ∧ True))) 4 (by kernel_rfl) (by kernel_rfl) (by kernel_rfl) (by kernel_rfl) (by kernel_rfl) (by kernel_rfl) ⟨⟨trivial, ⟨(Nat.le_refl _), trivial⟩⟩, ⟨⟨trivial, ⟨(Nat.le_refl _), trivial⟩⟩, trivial⟩⟩ rfl (ref12_Same_ok (Ring.mk v12.Z v12.Read) (Ring.mk v14.Z v14.Read) v16 h17) (by kernel_rfl) (by kernel_rfl) (by kernel_rfl) (ref12_Same_f v16)) ?_
            refine A_pureE (boolV true) (boolV v16) (congrArg boolV b18) [17] [] (True) (by kernel_rfl) trivial ?_
            refine A_pure (.v (.agg [.val (.int .i64 a1.Z), tl e_Reading default a1.Read])) [3, 18] [1] (True) (by kernel_rfl) trivial ?_
            refine A_pure (.v (.one (.val (.int .i64 a3)))) [2, 18] [] (True) (by kernel_rfl) trivial ?_
            refine A_run ⟨true, (ring_Turn_x v19).sh 4, obNv 4 (ring_Turn_o v19), obSh 4 (ring_Turn_o v19), [18, 19, 20], []⟩ (by kernel_rfl) (Step_call (x := ring_Turn_x v19) (ob := ring_Turn_o v19) (f := 19) (args := [(.tmp 19), (.tmp 20)]) (fn := Tryd.f19) (ys := [.agg [.val (.int .i64 a1.Z), tl e_Reading default a1.Read], .one (.val (.int .i64 a3))]) 4 (by kernel_rfl) (by kernel_rfl) (by kernel_rfl) (by kernel_rfl) (by kernel_rfl) (by kernel_rfl) rfl (ring_Turn_ok a1 a3 v19 h20) (by kernel_rfl) (by kernel_rfl)) ?_
            refine A_pure (.v (.agg [.val (.int .i64 a1.Z), tl e_Reading default a1.Read])) [3, 18] [1] (True) (by kernel_rfl) trivial ?_
            refine A_pure (.v (.one (.val (.int .i64 a3)))) [2, 18] [] (True) (by kernel_rfl) trivial ?_
            refine A_run ⟨true, (ref12_Turn_x v21).sh 5, obNv 5 (ref12_Turn_o v21), obSh 5 (ref12_Turn_o v21), [18, 22, 23], []⟩ (by kernel_rfl) (Step_call (x := ref12_Turn_x v21) (ob := ref12_Turn_o v21) (f := 20) (args := [(.tmp 22), (.tmp 23)]) (fn := Tryd.f20) (ys := [.agg [.val (.int .i64 a1.Z), tl e_Reading default a1.Read], .one (.val (.int .i64 a3))]) 5 (by kernel_rfl) (by kernel_rfl) (by kernel_rfl) (by kernel_rfl) (by kernel_rfl) (by kernel_rfl) rfl (ref12_Turn_ok a1 a3 v21 h22) (by kernel_rfl) (by kernel_rfl)) ?_
            refine A_run ⟨true, (ref12_Same_x v23).sh 6, obNv 6 (ref12_Same_o v23), obSh 6 (ref12_Same_o v23), [18, 21, 24], [4, 5]⟩ (by kernel_rfl) (Step_call_own (x := ref12_Same_x v23) (ob := ref12_Same_o v23) (f := 16) (args := [(.tmp 21), (.tmp 24)]) (fn := Tryd.f16) (ys := [.agg [.val (.int .i64 v19.Z), .own 4 0 3 v19.Read.length], .agg [.val (.int .i64 v21.Z), .own 5 0 3 v21.Read.length]]) (zs := [.agg [.val (.int .i64 v19.Z), .lst v19.Read.length (rowf e_Reading default v19.Read)], .agg [.val (.int .i64 v21.Z), .lst v21.Read.length (rowf e_Reading default v21.Read)]]) (p := ((True ∧ (v19.Read.length ≤ v19.Read.length ∧ True)) ∧ ((True ∧ (v21.Read.length ≤ v21.Read.length ∧ True)) ∧ True))) 6 (by kernel_rfl) (by kernel_rfl) (by kernel_rfl) (by kernel_rfl) (by kernel_rfl) (by kernel_rfl) ⟨⟨trivial, ⟨(Nat.le_refl _), trivial⟩⟩, ⟨⟨trivial, ⟨(Nat.le_refl _), trivial⟩⟩, trivial⟩⟩ rfl (ref12_Same_ok (Ring.mk v19.Z v19.Read) (Ring.mk v21.Z v21.Read) v23 h24) (by kernel_rfl) (by kernel_rfl) (by kernel_rfl) (ref12_Same_f v23)) ?_
            refine A_pure (.v (.one (.val (.bool v23)))) [18, 25] [] (True) (by kernel_rfl) trivial ?_
            refine A_pureE (boolV true) (boolV v23) (congrArg boolV b25) [26] [] (True) (by kernel_rfl) trivial ?_
            refine A_run ⟨true, (law12_awake_x v26).sh 6, obNv 6 (law12_awake_o v26), obSh 6 (law12_awake_o v26), [27], []⟩ (by kernel_rfl) (Step_call (x := law12_awake_x v26) (ob := law12_awake_o v26) (f := 11) (args := []) (fn := Tryd.f11) (ys := []) 6 (by kernel_rfl) (by kernel_rfl) (by kernel_rfl) (by kernel_rfl) (by kernel_rfl) (by kernel_rfl) rfl (law12_awake_ok v26 h27) (by kernel_rfl) (by kernel_rfl)) ?_
            refine A_pure (.v (.one (.val (.bool v26)))) [27, 28] [] (True) (by kernel_rfl) trivial ?_
            refine A_pure (.v (.one (.val (.bool v26)))) [29] [] (True) (by kernel_rfl) trivial ?_
            exact A_end
          · exact J_mk (v26) hm (by kernel_rfl) (by kernel_rfl)
        · replace hm := bif_f b25 hm
          refine R_draw 3 (rg Tryd.f4 [1, 1, 0]) (by kernel_rfl) [⟨true, .v (.agg [.val (.int .i64 a1.Z), tl e_Reading default a1.Read]), [], [], [3], [1]⟩, ⟨true, .v (.one (.val (.int .i64 a2))), [], [], [1], []⟩, ⟨true, (ring_Clean_x v12).sh 2, obNv 2 (ring_Clean_o v12), obSh 2 (ring_Clean_o v12), [11, 12], []⟩, ⟨true, .v (.agg [.val (.int .i64 a1.Z), tl e_Reading default a1.Read]), [], [], [3], [1]⟩, ⟨true, .v (.one (.val (.int .i64 a2))), [], [], [1], []⟩, ⟨true, (ref12_Clean_x v14).sh 3, obNv 3 (ref12_Clean_o v14), obSh 3 (ref12_Clean_o v14), [14, 15], []⟩, ⟨true, (ref12_Same_x v16).sh 4, obNv 4 (ref12_Same_o v16), obSh 4 (ref12_Same_o v16), [13, 16], [2, 3]⟩, ⟨true, boolV true, [], [], [17], []⟩, ⟨true, .v (.agg [.val (.int .i64 a1.Z), tl e_Reading default a1.Read]), [], [], [3, 18], [1]⟩, ⟨true, .v (.one (.val (.int .i64 a3))), [], [], [2, 18], []⟩, ⟨true, (ring_Turn_x v19).sh 4, obNv 4 (ring_Turn_o v19), obSh 4 (ring_Turn_o v19), [18, 19, 20], []⟩, ⟨true, .v (.agg [.val (.int .i64 a1.Z), tl e_Reading default a1.Read]), [], [], [3, 18], [1]⟩, ⟨true, .v (.one (.val (.int .i64 a3))), [], [], [2, 18], []⟩, ⟨true, (ref12_Turn_x v21).sh 5, obNv 5 (ref12_Turn_o v21), obSh 5 (ref12_Turn_o v21), [18, 22, 23], []⟩, ⟨true, (ref12_Same_x v23).sh 6, obNv 6 (ref12_Same_o v23), obSh 6 (ref12_Same_o v23), [18, 21, 24], [4, 5]⟩, ⟨true, .v (.one (.val (.bool v23))), [], [], [18, 25], []⟩, ⟨true, boolV false, [], [], [26], []⟩, ⟨false, .undef, [], [], [27], []⟩, ⟨true, .v (.one (.val (.bool false))), [], [], [27, 28], []⟩, ⟨true, .v (.one (.val (.bool false))), [], [], [29], []⟩] [0, 0, 3, 0, 0, 31, 63, 127, 255, 255, 1023, 255, 255, 8191, 16383, 32767, 65535, 131071, 262143, 524287] (by kernel_rfl) (by kernel_rfl) (by kernel_rfl) (by kernel_rfl) (by kernel_rfl) (by kernel_rfl) ?_ ?_
          · refine A_pure (.v (.agg [.val (.int .i64 a1.Z), tl e_Reading default a1.Read])) [3] [1] (True) (by kernel_rfl) trivial ?_
            refine A_pure (.v (.one (.val (.int .i64 a2)))) [1] [] (True) (by kernel_rfl) trivial ?_
            refine A_run ⟨true, (ring_Clean_x v12).sh 2, obNv 2 (ring_Clean_o v12), obSh 2 (ring_Clean_o v12), [11, 12], []⟩ (by kernel_rfl) (Step_call (x := ring_Clean_x v12) (ob := ring_Clean_o v12) (f := 17) (args := [(.tmp 11), (.tmp 12)]) (fn := Tryd.f17) (ys := [.agg [.val (.int .i64 a1.Z), tl e_Reading default a1.Read], .one (.val (.int .i64 a2))]) 2 (by kernel_rfl) (by kernel_rfl) (by kernel_rfl) (by kernel_rfl) (by kernel_rfl) (by kernel_rfl) rfl (ring_Clean_ok a1 a2 v12 h13) (by kernel_rfl) (by kernel_rfl)) ?_
            refine A_pure (.v (.agg [.val (.int .i64 a1.Z), tl e_Reading default a1.Read])) [3] [1] (True) (by kernel_rfl) trivial ?_
            refine A_pure (.v (.one (.val (.int .i64 a2)))) [1] [] (True) (by kernel_rfl) trivial ?_
            refine A_run ⟨true, (ref12_Clean_x v14).sh 3, obNv 3 (ref12_Clean_o v14), obSh 3 (ref12_Clean_o v14), [14, 15], []⟩ (by kernel_rfl) (Step_call (x := ref12_Clean_x v14) (ob := ref12_Clean_o v14) (f := 18) (args := [(.tmp 14), (.tmp 15)]) (fn := Tryd.f18) (ys := [.agg [.val (.int .i64 a1.Z), tl e_Reading default a1.Read], .one (.val (.int .i64 a2))]) 3 (by kernel_rfl) (by kernel_rfl) (by kernel_rfl) (by kernel_rfl) (by kernel_rfl) (by kernel_rfl) rfl (ref12_Clean_ok a1 a2 v14 h15) (by kernel_rfl) (by kernel_rfl)) ?_
            refine A_run ⟨true, (ref12_Same_x v16).sh 4, obNv 4 (ref12_Same_o v16), obSh 4 (ref12_Same_o v16), [13, 16], [2, 3]⟩ (by kernel_rfl) (Step_call_own (x := ref12_Same_x v16) (ob := ref12_Same_o v16) (f := 16) (args := [(.tmp 13), (.tmp 16)]) (fn := Tryd.f16) (ys := [.agg [.val (.int .i64 v12.Z), .own 2 0 3 v12.Read.length], .agg [.val (.int .i64 v14.Z), .own 3 0 3 v14.Read.length]]) (zs := [.agg [.val (.int .i64 v12.Z), .lst v12.Read.length (rowf e_Reading default v12.Read)], .agg [.val (.int .i64 v14.Z), .lst v14.Read.length (rowf e_Reading default v14.Read)]]) (p := ((True ∧ (v12.Read.length ≤ v12.Read.length ∧ True)) ∧ ((True ∧ (v14.Read.length ≤ v14.Read.length ∧ True)) ∧ True))) 4 (by kernel_rfl) (by kernel_rfl) (by kernel_rfl) (by kernel_rfl) (by kernel_rfl) (by kernel_rfl) ⟨⟨trivial, ⟨(Nat.le_refl _), trivial⟩⟩, ⟨⟨trivial, ⟨(Nat.le_refl _), trivial⟩⟩, trivial⟩⟩ rfl (ref12_Same_ok (Ring.mk v12.Z v12.Read) (Ring.mk v14.Z v14.Read) v16 h17) (by kernel_rfl) (by kernel_rfl) (by kernel_rfl) (ref12_Same_f v16)) ?_
            refine A_pureE (boolV true) (boolV v16) (congrArg boolV b18) [17] [] (True) (by kernel_rfl) trivial ?_
            refine A_pure (.v (.agg [.val (.int .i64 a1.Z), tl e_Reading default a1.Read])) [3, 18] [1] (True) (by kernel_rfl) trivial ?_
            refine A_pure (.v (.one (.val (.int .i64 a3)))) [2, 18] [] (True) (by kernel_rfl) trivial ?_
            refine A_run ⟨true, (ring_Turn_x v19).sh 4, obNv 4 (ring_Turn_o v19), obSh 4 (ring_Turn_o v19), [18, 19, 20], []⟩ (by kernel_rfl) (Step_call (x := ring_Turn_x v19) (ob := ring_Turn_o v19) (f := 19) (args := [(.tmp 19), (.tmp 20)]) (fn := Tryd.f19) (ys := [.agg [.val (.int .i64 a1.Z), tl e_Reading default a1.Read], .one (.val (.int .i64 a3))]) 4 (by kernel_rfl) (by kernel_rfl) (by kernel_rfl) (by kernel_rfl) (by kernel_rfl) (by kernel_rfl) rfl (ring_Turn_ok a1 a3 v19 h20) (by kernel_rfl) (by kernel_rfl)) ?_
            refine A_pure (.v (.agg [.val (.int .i64 a1.Z), tl e_Reading default a1.Read])) [3, 18] [1] (True) (by kernel_rfl) trivial ?_
            refine A_pure (.v (.one (.val (.int .i64 a3)))) [2, 18] [] (True) (by kernel_rfl) trivial ?_
            refine A_run ⟨true, (ref12_Turn_x v21).sh 5, obNv 5 (ref12_Turn_o v21), obSh 5 (ref12_Turn_o v21), [18, 22, 23], []⟩ (by kernel_rfl) (Step_call (x := ref12_Turn_x v21) (ob := ref12_Turn_o v21) (f := 20) (args := [(.tmp 22), (.tmp 23)]) (fn := Tryd.f20) (ys := [.agg [.val (.int .i64 a1.Z), tl e_Reading default a1.Read], .one (.val (.int .i64 a3))]) 5 (by kernel_rfl) (by kernel_rfl) (by kernel_rfl) (by kernel_rfl) (by kernel_rfl) (by kernel_rfl) rfl (ref12_Turn_ok a1 a3 v21 h22) (by kernel_rfl) (by kernel_rfl)) ?_
            refine A_run ⟨true, (ref12_Same_x v23).sh 6, obNv 6 (ref12_Same_o v23), obSh 6 (ref12_Same_o v23), [18, 21, 24], [4, 5]⟩ (by kernel_rfl) (Step_call_own (x := ref12_Same_x v23) (ob := ref12_Same_o v23) (f := 16) (args := [(.tmp 21), (.tmp 24)]) (fn := Tryd.f16) (ys := [.agg [.val (.int .i64 v19.Z), .own 4 0 3 v19.Read.length], .agg [.val (.int .i64 v21.Z), .own 5 0 3 v21.Read.length]]) (zs := [.agg [.val (.int .i64 v19.Z), .lst v19.Read.length (rowf e_Reading default v19.Read)], .agg [.val (.int .i64 v21.Z), .lst v21.Read.length (rowf e_Reading default v21.Read)]]) (p := ((True ∧ (v19.Read.length ≤ v19.Read.length ∧ True)) ∧ ((True ∧ (v21.Read.length ≤ v21.Read.length ∧ True)) ∧ True))) 6 (by kernel_rfl) (by kernel_rfl) (by kernel_rfl) (by kernel_rfl) (by kernel_rfl) (by kernel_rfl) ⟨⟨trivial, ⟨(Nat.le_refl _), trivial⟩⟩, ⟨⟨trivial, ⟨(Nat.le_refl _), trivial⟩⟩, trivial⟩⟩ rfl (ref12_Same_ok (Ring.mk v19.Z v19.Read) (Ring.mk v21.Z v21.Read) v23 h24) (by kernel_rfl) (by kernel_rfl) (by kernel_rfl) (ref12_Same_f v23)) ?_
            refine A_pure (.v (.one (.val (.bool v23)))) [18, 25] [] (True) (by kernel_rfl) trivial ?_
            refine A_pureE (boolV false) (boolV v23) (congrArg boolV b25) [26] [] (True) (by kernel_rfl) trivial ?_
            refine A_skip [27] (by kernel_rfl) ?_
            refine A_pure (.v (.one (.val (.bool false)))) [27, 28] [] (True) (by kernel_rfl) trivial ?_
            refine A_pure (.v (.one (.val (.bool false)))) [29] [] (True) (by kernel_rfl) trivial ?_
            exact A_end
          · exact J_mk (false) hm (by kernel_rfl) (by kernel_rfl)
      · replace hm := bif_f b18 hm
        refine R_draw 3 (rg Tryd.f4 [1, 1, 0]) (by kernel_rfl) [⟨true, .v (.agg [.val (.int .i64 a1.Z), tl e_Reading default a1.Read]), [], [], [3], [1]⟩, ⟨true, .v (.one (.val (.int .i64 a2))), [], [], [1], []⟩, ⟨true, (ring_Clean_x v12).sh 2, obNv 2 (ring_Clean_o v12), obSh 2 (ring_Clean_o v12), [11, 12], []⟩, ⟨true, .v (.agg [.val (.int .i64 a1.Z), tl e_Reading default a1.Read]), [], [], [3], [1]⟩, ⟨true, .v (.one (.val (.int .i64 a2))), [], [], [1], []⟩, ⟨true, (ref12_Clean_x v14).sh 3, obNv 3 (ref12_Clean_o v14), obSh 3 (ref12_Clean_o v14), [14, 15], []⟩, ⟨true, (ref12_Same_x v16).sh 4, obNv 4 (ref12_Same_o v16), obSh 4 (ref12_Same_o v16), [13, 16], [2, 3]⟩, ⟨true, boolV false, [], [], [17], []⟩, ⟨false, .undef, [], [], [18], []⟩, ⟨false, .undef, [], [], [18], []⟩, ⟨false, .undef, [], [], [18], []⟩, ⟨false, .undef, [], [], [18], []⟩, ⟨false, .undef, [], [], [18], []⟩, ⟨false, .undef, [], [], [18], []⟩, ⟨false, .undef, [], [], [18], []⟩, ⟨true, .v (.one (.val (.bool false))), [], [], [18, 25], []⟩, ⟨true, .v (.one (.val (.bool false))), [], [], [26], []⟩, ⟨false, .undef, [], [], [27], []⟩, ⟨true, .v (.one (.val (.bool false))), [], [], [27, 28], []⟩, ⟨true, .v (.one (.val (.bool false))), [], [], [29], []⟩] [0, 0, 3, 0, 0, 31, 63, 127, 255, 255, 1023, 255, 255, 8191, 16383, 32767, 65535, 131071, 262143, 524287] (by kernel_rfl) (by kernel_rfl) (by kernel_rfl) (by kernel_rfl) (by kernel_rfl) (by kernel_rfl) ?_ ?_
        · refine A_pure (.v (.agg [.val (.int .i64 a1.Z), tl e_Reading default a1.Read])) [3] [1] (True) (by kernel_rfl) trivial ?_
          refine A_pure (.v (.one (.val (.int .i64 a2)))) [1] [] (True) (by kernel_rfl) trivial ?_
          refine A_run ⟨true, (ring_Clean_x v12).sh 2, obNv 2 (ring_Clean_o v12), obSh 2 (ring_Clean_o v12), [11, 12], []⟩ (by kernel_rfl) (Step_call (x := ring_Clean_x v12) (ob := ring_Clean_o v12) (f := 17) (args := [(.tmp 11), (.tmp 12)]) (fn := Tryd.f17) (ys := [.agg [.val (.int .i64 a1.Z), tl e_Reading default a1.Read], .one (.val (.int .i64 a2))]) 2 (by kernel_rfl) (by kernel_rfl) (by kernel_rfl) (by kernel_rfl) (by kernel_rfl) (by kernel_rfl) rfl (ring_Clean_ok a1 a2 v12 h13) (by kernel_rfl) (by kernel_rfl)) ?_
          refine A_pure (.v (.agg [.val (.int .i64 a1.Z), tl e_Reading default a1.Read])) [3] [1] (True) (by kernel_rfl) trivial ?_
          refine A_pure (.v (.one (.val (.int .i64 a2)))) [1] [] (True) (by kernel_rfl) trivial ?_
          refine A_run ⟨true, (ref12_Clean_x v14).sh 3, obNv 3 (ref12_Clean_o v14), obSh 3 (ref12_Clean_o v14), [14, 15], []⟩ (by kernel_rfl) (Step_call (x := ref12_Clean_x v14) (ob := ref12_Clean_o v14) (f := 18) (args := [(.tmp 14), (.tmp 15)]) (fn := Tryd.f18) (ys := [.agg [.val (.int .i64 a1.Z), tl e_Reading default a1.Read], .one (.val (.int .i64 a2))]) 3 (by kernel_rfl) (by kernel_rfl) (by kernel_rfl) (by kernel_rfl) (by kernel_rfl) (by kernel_rfl) rfl (ref12_Clean_ok a1 a2 v14 h15) (by kernel_rfl) (by kernel_rfl)) ?_
          refine A_run ⟨true, (ref12_Same_x v16).sh 4, obNv 4 (ref12_Same_o v16), obSh 4 (ref12_Same_o v16), [13, 16], [2, 3]⟩ (by kernel_rfl) (Step_call_own (x := ref12_Same_x v16) (ob := ref12_Same_o v16) (f := 16) (args := [(.tmp 13), (.tmp 16)]) (fn := Tryd.f16) (ys := [.agg [.val (.int .i64 v12.Z), .own 2 0 3 v12.Read.length], .agg [.val (.int .i64 v14.Z), .own 3 0 3 v14.Read.length]]) (zs := [.agg [.val (.int .i64 v12.Z), .lst v12.Read.length (rowf e_Reading default v12.Read)], .agg [.val (.int .i64 v14.Z), .lst v14.Read.length (rowf e_Reading default v14.Read)]]) (p := ((True ∧ (v12.Read.length ≤ v12.Read.length ∧ True)) ∧ ((True ∧ (v14.Read.length ≤ v14.Read.length ∧ True)) ∧ True))) 4 (by kernel_rfl) (by kernel_rfl) (by kernel_rfl) (by kernel_rfl) (by kernel_rfl) (by kernel_rfl) ⟨⟨trivial, ⟨(Nat.le_refl _), trivial⟩⟩, ⟨⟨trivial, ⟨(Nat.le_refl _), trivial⟩⟩, trivial⟩⟩ rfl (ref12_Same_ok (Ring.mk v12.Z v12.Read) (Ring.mk v14.Z v14.Read) v16 h17) (by kernel_rfl) (by kernel_rfl) (by kernel_rfl) (ref12_Same_f v16)) ?_
          refine A_pureE (boolV false) (boolV v16) (congrArg boolV b18) [17] [] (True) (by kernel_rfl) trivial ?_
          refine A_skip [18] (by kernel_rfl) ?_
          refine A_skip [18] (by kernel_rfl) ?_
          refine A_skip [18] (by kernel_rfl) ?_
          refine A_skip [18] (by kernel_rfl) ?_
          refine A_skip [18] (by kernel_rfl) ?_
          refine A_skip [18] (by kernel_rfl) ?_
          refine A_skip [18] (by kernel_rfl) ?_
          refine A_pure (.v (.one (.val (.bool false)))) [18, 25] [] (True) (by kernel_rfl) trivial ?_
          refine A_pure (.v (.one (.val (.bool false)))) [26] [] (True) (by kernel_rfl) trivial ?_
          refine A_skip [27] (by kernel_rfl) ?_
          refine A_pure (.v (.one (.val (.bool false)))) [27, 28] [] (True) (by kernel_rfl) trivial ?_
          refine A_pure (.v (.one (.val (.bool false)))) [29] [] (True) (by kernel_rfl) trivial ?_
          exact A_end
        · exact J_mk (false) hm (by kernel_rfl) (by kernel_rfl)

end Saw
end Go.SL
