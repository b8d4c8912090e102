import Derived.Test.YtfpgdgmcmkileaaDoorRBase
import Derived.Test.YtfpgdgmcmkileaaDoorRA1
import Derived.Test.YtfpgdgmcmkileaaDoorRA5
import Derived.Test.YtfpgdgmcmkileaaDoorRA4
import Derived.Test.YtfpgdgmcmkileaaDoorRA2
import Derived.Test.YtfpgdgmcmkileaaDoorRB8
set_option linter.unusedVariables false
set_option linter.unusedSimpArgs false
namespace Go.SL
namespace Saw
open Go.Proofs
set_option maxHeartbeats 4000000

def law12_RingMerges_x (r : Bool) : V := .v (.one (.val (.bool r)))

def law12_RingMerges_o (r : Bool) : List (Nat × (Nat × O)) := []

theorem law12_RingMerges_f (r : Bool) : Frozen (law12_RingMerges_o r) := by
  intro i k o h
  unfold law12_RingMerges_o at h
  cases h

def law12_RingMerges_k2_S (x28 : Bool) : St :=
  { slots := [(4, .v (.one (.val (.bool x28))))], objs := [] }

def law12_RingMerges_k1_S (a1 : Ring) (a2 : Ring) (x10 : Bool) : St :=
  { slots := [(2, .v (.one (.bptr 1 0 0))), (3, .v (.one (.bptr 2 0 0))), (16, .v (.one (.val (.bool x10))))], objs := [(1, (0, .box 24 [.val (.int .i64 a1.Z), tl e_Reading default a1.Read])), (2, (0, .box 24 [.val (.int .i64 a2.Z), tl e_Reading default a2.Read]))] }

set_option maxRecDepth 100000 in
theorem law12_RingMerges_ok (a1 : Ring) (a2 : Ring) (r : Bool) (hm : law12_RingMerges a1 a2 = some r) : Ct Tryd.prog globs 6 [.agg [.val (.int .i64 a1.Z), tl e_Reading default a1.Read], .agg [.val (.int .i64 a2.Z), tl e_Reading default a2.Read]] (law12_RingMerges_x r) (law12_RingMerges_o r) := by
  unfold law12_RingMerges at hm
  refine Ct_of_H (fn := Tryd.f6) (c := nd Tryd.f6 []) mixed (by kernel_rfl) (by kernel_rfl) (by kernel_rfl) fun w A hg => ?_
  show H ({ P := Tryd.prog, w0 := w, nt := 41, A := A, globs := globs, mixed := mixed, glob := hg } : Ctx) _ _ _
  refine R_seq (nd Tryd.f6 [0]) (nd Tryd.f6 [1]) (by kernel_rfl) ?_
  refine R_region 0 (rg Tryd.f6 [0]) (by kernel_rfl) ?_
  have k3 : opsOk 41 (rg Tryd.f6 [0]) = true := by kernel_rfl
  refine P_step k3 ([(1, 0)]) ([(1, (0, .box 24 [.val (.int .i64 a1.Z), tl e_Reading default a1.Read]))]) (.v (.one (.bptr 1 0 0))) (by kernel_rfl) (Step_box 24 (.tmp 0) 1 0 (.agg [.val (.int .i64 a1.Z), tl e_Reading default a1.Read]) (by kernel_rfl) (by kernel_rfl) (by kernel_rfl)) ?_
  refine P_step k3 ([(2, 0)]) ([(2, (0, .box 24 [.val (.int .i64 a2.Z), tl e_Reading default a2.Read]))]) (.v (.one (.bptr 2 0 0))) (by kernel_rfl) (Step_box 24 (.tmp 1) 2 0 (.agg [.val (.int .i64 a2.Z), tl e_Reading default a2.Read]) (by kernel_rfl) (by kernel_rfl) (by kernel_rfl)) ?_
  refine P_op k3 (.v (.one (.val (.bool false)))) (by kernel_rfl) ?_
  refine HOps_end (by kernel_rfl) ?_
  refine R_seq (nd Tryd.f6 [1, 0]) (nd Tryd.f6 [1, 1]) (by kernel_rfl) ?_
  refine R_join (ι := Bool) (nd Tryd.f6 [1, 0, 0]) (nd Tryd.f6 [1, 0, 1]) (by kernel_rfl) (fun p => law12_RingMerges_k1_S a1 a2 p) (fun p => law12_RingMerges_k1 a1 a2 p = some r) ?_ ?_
  · rintro x10 hm
    show H _ (law12_RingMerges_k1_S a1 a2 x10) (nd Tryd.f6 [1, 0, 1]) _
    refine R_cond (.tmp 16) (nd Tryd.f6 [1, 0, 1, 0]) (nd Tryd.f6 [1, 0, 1, 1]) (by kernel_rfl) x10 (by kernel_rfl) (fun b11 => ?_) (fun b11 => ?_)
    · replace hm := bif_t b11 hm
      refine R_seq (nd Tryd.f6 [1, 0, 1, 0, 0]) (nd Tryd.f6 [1, 0, 1, 0, 1]) (by kernel_rfl) ?_
      refine R_region 2 (rg Tryd.f6 [1, 0, 1, 0, 0]) (by kernel_rfl) ?_
      have k12 : opsOk 41 (rg Tryd.f6 [1, 0, 1, 0, 0]) = true := by kernel_rfl
      obtain ⟨v13, h14, hm⟩ := bind_s hm
      refine P_step k12 (obNv 3 (law12_awake_o v13)) (obSh 3 (law12_awake_o v13)) ((law12_awake_x v13).sh 3) (by kernel_rfl) (Step_call (x := law12_awake_x v13) (ob := law12_awake_o v13) (f := 11) (args := []) (fn := Tryd.f11) (ys := []) 3 (by kernel_rfl) (by kernel_rfl) (by kernel_rfl) (by kernel_rfl) (by kernel_rfl) (by kernel_rfl) rfl (law12_awake_ok v13 h14) (by kernel_rfl) (by kernel_rfl)) ?_
      refine P_op k12 (.v (.one (.val (.bool v13)))) (by kernel_rfl) ?_
      refine HOps_end (by kernel_rfl) ?_
      obtain rfl := Option.some.inj hm
      refine R_ret (by kernel_rfl) ?_
      exact ret_mk (by kernel_rfl) (by kernel_rfl)
    · replace hm := bif_f b11 hm
      refine R_skip (by kernel_rfl) ?_
      refine R_seq (nd Tryd.f6 [1, 1, 0]) (nd Tryd.f6 [1, 1, 1]) (by kernel_rfl) ?_
      refine R_region 3 (rg Tryd.f6 [1, 1, 0]) (by kernel_rfl) ?_
      have k15 : opsOk 41 (rg Tryd.f6 [1, 1, 0]) = true := by kernel_rfl
      refine P_op k15 (.v (.agg [.val (.int .i64 a1.Z), tl e_Reading default a1.Read])) (by kernel_rfl) ?_
      refine P_op k15 (.v (.agg [.val (.int .i64 a2.Z), tl e_Reading default a2.Read])) (by kernel_rfl) ?_
      obtain ⟨v16, h17, hm⟩ := bind_s hm
      refine P_step k15 (obNv 3 (ring_Merge_o v16)) (obSh 3 (ring_Merge_o v16)) ((ring_Merge_x v16).sh 3) (by kernel_rfl) (Step_call (x := ring_Merge_x v16) (ob := ring_Merge_o v16) (f := 23) (args := [(.tmp 19), (.tmp 20)]) (fn := Tryd.f23) (ys := [.agg [.val (.int .i64 a1.Z), tl e_Reading default a1.Read], .agg [.val (.int .i64 a2.Z), tl e_Reading default a2.Read]]) 3 (by kernel_rfl) (by kernel_rfl) (by kernel_rfl) (by kernel_rfl) (by kernel_rfl) (by kernel_rfl) rfl (ring_Merge_ok a1 a2 v16 h17) (by kernel_rfl) (by kernel_rfl)) ?_
      refine P_op k15 (.tup [.agg [.val (.int .i64 v16.1.Z), .own 3 0 3 v16.1.Read.length], .one (.val (.int .i64 v16.2))]) (by kernel_rfl) ?_
      refine P_op k15 (.v (.agg [.val (.int .i64 v16.1.Z), .own 3 0 3 v16.1.Read.length])) (by kernel_rfl) ?_
      refine P_op k15 (.v (.one (.val (.int .i64 v16.2)))) (by kernel_rfl) ?_
      refine P_step k15 ([(4, 0)]) ([(4, (0, .box 24 [.val (.int .i64 0), .emp]))]) (.v (.one (.bptr 4 0 0))) (by kernel_rfl) (Step_alloc 24 4 0 [.val (.int .i64 0), .emp] (by kernel_rfl) (by kernel_rfl) (by kernel_rfl)) ?_
      refine P_write k15 ([(4, (0, .box 24 [.val (.int .i64 v16.1.Z), .own 3 0 3 v16.1.Read.length]))]) (.undef) (by kernel_rfl) (Step_store_box 24 (.tmp 5) (.tmp 22) 4 0 0 24 [.val (.int .i64 0), .emp] (.agg [.val (.int .i64 v16.1.Z), .own 3 0 3 v16.1.Read.length]) [.val (.int .i64 v16.1.Z), .own 3 0 3 v16.1.Read.length] (by kernel_rfl) (by kernel_rfl) (by kernel_rfl) (by kernel_rfl) (by kernel_rfl) (by kernel_rfl) (by kernel_rfl) (by kernel_rfl)) ?_
      refine P_op k15 (.v (.one (.val (.int .i64 v16.2)))) (by kernel_rfl) ?_
      refine HOps_end (by kernel_rfl) ?_
      refine R_seq (nd Tryd.f6 [1, 1, 1, 0]) (nd Tryd.f6 [1, 1, 1, 1]) (by kernel_rfl) ?_
      refine R_region 4 (rg Tryd.f6 [1, 1, 1, 0]) (by kernel_rfl) ?_
      have k18 : opsOk 41 (rg Tryd.f6 [1, 1, 1, 0]) = true := by kernel_rfl
      refine P_op k18 (.v (.agg [.val (.int .i64 a1.Z), tl e_Reading default a1.Read])) (by kernel_rfl) ?_
      refine P_op k18 (.v (.agg [.val (.int .i64 a2.Z), tl e_Reading default a2.Read])) (by kernel_rfl) ?_
      obtain ⟨v19, h20, hm⟩ := bind_s hm
      refine P_step k18 (obNv 5 (ref12_Merge_o v19)) (obSh 5 (ref12_Merge_o v19)) ((ref12_Merge_x v19).sh 5) (by kernel_rfl) (Step_call (x := ref12_Merge_x v19) (ob := ref12_Merge_o v19) (f := 24) (args := [(.tmp 25), (.tmp 26)]) (fn := Tryd.f24) (ys := [.agg [.val (.int .i64 a1.Z), tl e_Reading default a1.Read], .agg [.val (.int .i64 a2.Z), tl e_Reading default a2.Read]]) 5 (by kernel_rfl) (by kernel_rfl) (by kernel_rfl) (by kernel_rfl) (by kernel_rfl) (by kernel_rfl) rfl (ref12_Merge_ok a1 a2 v19 h20) (by kernel_rfl) (by kernel_rfl)) ?_
      refine P_op k18 (.tup [.agg [.val (.int .i64 v19.1.Z), .own 5 0 3 v19.1.Read.length], .one (.val (.int .i64 v19.2))]) (by kernel_rfl) ?_
      refine P_op k18 (.v (.agg [.val (.int .i64 v19.1.Z), .own 5 0 3 v19.1.Read.length])) (by kernel_rfl) ?_
      refine P_op k18 (.v (.one (.val (.int .i64 v19.2)))) (by kernel_rfl) ?_
      refine P_step k18 ([(6, 0)]) ([(6, (0, .box 24 [.val (.int .i64 0), .emp]))]) (.v (.one (.bptr 6 0 0))) (by kernel_rfl) (Step_alloc 24 6 0 [.val (.int .i64 0), .emp] (by kernel_rfl) (by kernel_rfl) (by kernel_rfl)) ?_
      refine P_write k18 ([(6, (0, .box 24 [.val (.int .i64 v19.1.Z), .own 5 0 3 v19.1.Read.length]))]) (.undef) (by kernel_rfl) (Step_store_box 24 (.tmp 7) (.tmp 28) 6 0 0 24 [.val (.int .i64 0), .emp] (.agg [.val (.int .i64 v19.1.Z), .own 5 0 3 v19.1.Read.length]) [.val (.int .i64 v19.1.Z), .own 5 0 3 v19.1.Read.length] (by kernel_rfl) (by kernel_rfl) (by kernel_rfl) (by kernel_rfl) (by kernel_rfl) (by kernel_rfl) (by kernel_rfl) (by kernel_rfl)) ?_
      refine P_op k18 (.v (.one (.val (.int .i64 v19.2)))) (by kernel_rfl) ?_
      refine HOps_end (by kernel_rfl) ?_
      refine R_join (ι := Bool) (nd Tryd.f6 [1, 1, 1, 1, 0]) (nd Tryd.f6 [1, 1, 1, 1, 1]) (by kernel_rfl) (fun p => law12_RingMerges_k2_S p) (fun p => law12_RingMerges_k2 p = some r) ?_ ?_
      · rintro x28 hm
        show H _ (law12_RingMerges_k2_S x28) (nd Tryd.f6 [1, 1, 1, 1, 1]) _
        obtain rfl := Option.some.inj hm
        refine R_ret (by kernel_rfl) ?_
        exact ret_mk (by kernel_rfl) (by kernel_rfl)
      · refine R_region 5 (rg Tryd.f6 [1, 1, 1, 1, 0]) (by kernel_rfl) ?_
        have k21 : opsOk 41 (rg Tryd.f6 [1, 1, 1, 1, 0]) = true := by kernel_rfl
        refine P_op k21 (.v (.agg [.val (.int .i64 v16.1.Z), .own 3 0 3 v16.1.Read.length])) (by kernel_rfl) ?_
        refine P_op k21 (.v (.agg [.val (.int .i64 v19.1.Z), .own 5 0 3 v19.1.Read.length])) (by kernel_rfl) ?_
        obtain ⟨v22, h23, hm⟩ := bind_s hm
        refine P_step k21 (obNv 7 (ref12_Same_o v22)) (obSh 7 (ref12_Same_o v22)) ((ref12_Same_x v22).sh 7) (by kernel_rfl) (Step_call_own (x := ref12_Same_x v22) (ob := ref12_Same_o v22) (f := 16) (args := [(.tmp 30), (.tmp 31)]) (fn := Tryd.f16) (ys := [.agg [.val (.int .i64 v16.1.Z), .own 3 0 3 v16.1.Read.length], .agg [.val (.int .i64 v19.1.Z), .own 5 0 3 v19.1.Read.length]]) (zs := [.agg [.val (.int .i64 v16.1.Z), .lst v16.1.Read.length (rowf e_Reading default v16.1.Read)], .agg [.val (.int .i64 v19.1.Z), .lst v19.1.Read.length (rowf e_Reading default v19.1.Read)]]) (p := ((True ∧ (v16.1.Read.length ≤ v16.1.Read.length ∧ True)) ∧ ((True ∧ (v19.1.Read.length ≤ v19.1.Read.length ∧ True)) ∧ True))) 7 (by kernel_rfl) (by kernel_rfl) (by kernel_rfl) (by kernel_rfl) (by kernel_rfl) (by kernel_rfl) ⟨⟨trivial, ⟨(Nat.le_refl _), trivial⟩⟩, ⟨⟨trivial, ⟨(Nat.le_refl _), trivial⟩⟩, trivial⟩⟩ rfl (ref12_Same_ok (Ring.mk v16.1.Z v16.1.Read) (Ring.mk v19.1.Z v19.1.Read) v22 h23) (by kernel_rfl) (by kernel_rfl) (by kernel_rfl) (ref12_Same_f v22)) ?_
        refine P_op k21 (.v (.one (.val (.bool v22)))) (by kernel_rfl) ?_
        refine HOps_bool 33 v22 (by kernel_rfl) (fun b24 => ?_) (fun b24 => ?_)
        · replace hm := bif_t b24 hm
          refine P_op k21 (.v (.one (.val (.int .i64 v16.2)))) (by kernel_rfl) ?_
          refine P_op k21 (.v (.one (.val (.int .i64 v19.2)))) (by kernel_rfl) ?_
          refine P_op k21 (.v (.one (.val (.bool (v16.2 == v19.2))))) (by kernel_rfl) ?_
          refine P_op k21 (.v (.one (.val (.bool (v16.2 == v19.2))))) (by kernel_rfl) ?_
          refine P_op k21 (.v (.one (.val (.bool (v16.2 == v19.2))))) (by kernel_rfl) ?_
          refine HOps_bool 38 (v16.2 == v19.2) (by kernel_rfl) (fun b25 => ?_) (fun b25 => ?_)
          · replace hm := bif_t b25 hm
            obtain ⟨v26, h27, hm⟩ := bind_s hm
            refine P_step k21 (obNv 7 (law12_awake_o v26)) (obSh 7 (law12_awake_o v26)) ((law12_awake_x v26).sh 7) (by kernel_rfl) (Step_call (x := law12_awake_x v26) (ob := law12_awake_o v26) (f := 11) (args := []) (fn := Tryd.f11) (ys := []) 7 (by kernel_rfl) (by kernel_rfl) (by kernel_rfl) (by kernel_rfl) (by kernel_rfl) (by kernel_rfl) rfl (law12_awake_ok v26 h27) (by kernel_rfl) (by kernel_rfl)) ?_
            refine P_op k21 (.v (.one (.val (.bool v26)))) (by kernel_rfl) ?_
            refine P_op k21 (.v (.one (.val (.bool v26)))) (by kernel_rfl) ?_
            refine HOps_end (by kernel_rfl) ?_
            exact J_mk (v26) hm (by kernel_rfl) (by kernel_rfl)
          · replace hm := bif_f b25 hm
            refine P_skip k21 (by kernel_rfl) ?_
            refine P_op k21 (.v (.one (.val (.bool false)))) (by kernel_rfl) ?_
            refine P_op k21 (.v (.one (.val (.bool false)))) (by kernel_rfl) ?_
            refine HOps_end (by kernel_rfl) ?_
            exact J_mk (false) hm (by kernel_rfl) (by kernel_rfl)
        · replace hm := bif_f b24 hm
          refine P_skip k21 (by kernel_rfl) ?_
          refine P_skip k21 (by kernel_rfl) ?_
          refine P_skip k21 (by kernel_rfl) ?_
          refine P_op k21 (.v (.one (.val (.bool false)))) (by kernel_rfl) ?_
          refine P_op k21 (.v (.one (.val (.bool false)))) (by kernel_rfl) ?_
          refine P_skip k21 (by kernel_rfl) ?_
          refine P_op k21 (.v (.one (.val (.bool false)))) (by kernel_rfl) ?_
          refine P_op k21 (.v (.one (.val (.bool false)))) (by kernel_rfl) ?_
          refine HOps_end (by kernel_rfl) ?_
          exact J_mk (false) hm (by kernel_rfl) (by kernel_rfl)
  · refine R_region 1 (rg Tryd.f6 [1, 0, 0]) (by kernel_rfl) ?_
    have k4 : opsOk 41 (rg Tryd.f6 [1, 0, 0]) = true := by kernel_rfl
    refine P_op k4 (.v (.agg [.val (.int .i64 a1.Z), tl e_Reading default a1.Read])) (by kernel_rfl) ?_
    obtain ⟨v5, h6, hm⟩ := bind_s hm
    refine P_step k4 (obNv 3 (law12_few_o v5)) (obSh 3 (law12_few_o v5)) ((law12_few_x v5).sh 3) (by kernel_rfl) (Step_call (x := law12_few_x v5) (ob := law12_few_o v5) (f := 10) (args := [(.tmp 9)]) (fn := Tryd.f10) (ys := [.agg [.val (.int .i64 a1.Z), tl e_Reading default a1.Read]]) 3 (by kernel_rfl) (by kernel_rfl) (by kernel_rfl) (by kernel_rfl) (by kernel_rfl) (by kernel_rfl) rfl (law12_few_ok a1 v5 h6) (by kernel_rfl) (by kernel_rfl)) ?_
    refine P_op k4 (.v (.one (.val (.bool (!v5))))) (by kernel_rfl) ?_
    refine P_op k4 (.v (.one (.val (.bool (!v5))))) (by kernel_rfl) ?_
    refine HOps_bool 12 (!v5) (by kernel_rfl) (fun b7 => ?_) (fun b7 => ?_)
    · replace hm := bif_t b7 hm
      refine P_skip k4 (by kernel_rfl) ?_
      refine P_skip k4 (by kernel_rfl) ?_
      refine P_skip k4 (by kernel_rfl) ?_
      refine P_op k4 (.v (.one (.val (.bool true)))) (by kernel_rfl) ?_
      refine HOps_end (by kernel_rfl) ?_
      exact J_mk (true) hm (by kernel_rfl) (by kernel_rfl)
    · replace hm := bif_f b7 hm
      refine P_op k4 (.v (.agg [.val (.int .i64 a2.Z), tl e_Reading default a2.Read])) (by kernel_rfl) ?_
      obtain ⟨v8, h9, hm⟩ := bind_s hm
      refine P_step k4 (obNv 3 (law12_few_o v8)) (obSh 3 (law12_few_o v8)) ((law12_few_x v8).sh 3) (by kernel_rfl) (Step_call (x := law12_few_x v8) (ob := law12_few_o v8) (f := 10) (args := [(.tmp 13)]) (fn := Tryd.f10) (ys := [.agg [.val (.int .i64 a2.Z), tl e_Reading default a2.Read]]) 3 (by kernel_rfl) (by kernel_rfl) (by kernel_rfl) (by kernel_rfl) (by kernel_rfl) (by kernel_rfl) rfl (law12_few_ok a2 v8 h9) (by kernel_rfl) (by kernel_rfl)) ?_
      refine P_op k4 (.v (.one (.val (.bool (!v8))))) (by kernel_rfl) ?_
      refine P_op k4 (.v (.one (.val (.bool (!v8))))) (by kernel_rfl) ?_
      refine HOps_end (by kernel_rfl) ?_
      exact J_mk (!v8) hm (by kernel_rfl) (by kernel_rfl)

end Saw
end Go.SL
