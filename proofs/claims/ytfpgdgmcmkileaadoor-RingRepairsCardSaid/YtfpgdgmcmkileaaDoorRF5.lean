import Derived.Test.YtfpgdgmcmkileaaDoorRBase
import Derived.Test.YtfpgdgmcmkileaaDoorRA1
import Derived.Test.YtfpgdgmcmkileaaDoorRA5
import Derived.Test.YtfpgdgmcmkileaaDoorRA2
import Derived.Test.YtfpgdgmcmkileaaDoorRB7
set_option linter.unusedVariables false
set_option linter.unusedSimpArgs false
namespace Go.SL
namespace Saw
open Go.Proofs
set_option maxHeartbeats 4000000

def law12_RingRepairs_x (r : Bool) : V := .v (.one (.val (.bool r)))

def law12_RingRepairs_o (r : Bool) : List (Nat × (Nat × O)) := []

theorem law12_RingRepairs_f (r : Bool) : Frozen (law12_RingRepairs_o r) := by
  intro i k o h
  unfold law12_RingRepairs_o at h
  cases h

def law12_RingRepairs_L2_S (v12 : (List Point) × Int) (v15 : (List Point) × Int) (x23 : Int) : St :=
  { slots := [(5, .v (.one (.own 2 0 2 v12.1.length))), (7, .v (.one (.own 3 0 2 v15.1.length))), (9, .v (.one (.val (.int .i64 x23))))], objs := [(2, (0, .row 38 2 v12.1.length (rowf e_Point default v12.1))), (3, (0, .row 38 2 v15.1.length (rowf e_Point default v15.1)))] }

def law12_RingRepairs_L2_T : St :=
  { slots := [], objs := [] }

def law12_RingRepairs_k1_S (v12 : (List Point) × Int) (v15 : (List Point) × Int) (x19 : Bool) : St :=
  { slots := [(5, .v (.one (.own 2 0 2 v12.1.length))), (7, .v (.one (.own 3 0 2 v15.1.length))), (35, .v (.one (.val (.bool x19))))], objs := [(2, (0, .row 38 2 v12.1.length (rowf e_Point default v12.1))), (3, (0, .row 38 2 v15.1.length (rowf e_Point default v15.1)))] }

set_option maxRecDepth 100000 in
theorem law12_RingRepairs_L2_ok (w : World) (A : Nat → Prop) (hg : Globs globs w A) (v12 : (List Point) × Int) (v15 : (List Point) × Int) : ∀ (n : Nat) (x23 : Int) (res : Bool ⊕ Unit), law12_RingRepairs_L2 v12 v15 n x23 = some res → HL ({ P := Tryd.prog, w0 := w, nt := 52, A := A, globs := globs, mixed := mixed, glob := hg } : Ctx) (nd Tryd.f5 [1, 1, 1, 1, 1, 0, 1, 0, 0]) (loopQ 0 (fun o => law12_RingRepairs_L2_T) (fun v st => RetQ Tryd.prog Tryd.f5 (law12_RingRepairs_x v) (law12_RingRepairs_o v) .ret st) res) n (law12_RingRepairs_L2_S v12 v15 x23) := by
  intro n
  induction n with
  | zero =>
    intro x23 res hm
    cases hm
  | succ n ih =>
    intro x23 res hm
    refine HL_succ ?_
    refine R_seq (nd Tryd.f5 [1, 1, 1, 1, 1, 0, 1, 0, 0, 0]) (nd Tryd.f5 [1, 1, 1, 1, 1, 0, 1, 0, 0, 1]) (by kernel_rfl) ?_
    refine R_seq (nd Tryd.f5 [1, 1, 1, 1, 1, 0, 1, 0, 0, 0, 0]) (nd Tryd.f5 [1, 1, 1, 1, 1, 0, 1, 0, 0, 0, 1]) (by kernel_rfl) ?_
    refine R_region 8 (rg Tryd.f5 [1, 1, 1, 1, 1, 0, 1, 0, 0, 0, 0]) (by kernel_rfl) ?_
    have k24 : opsOk 52 (rg Tryd.f5 [1, 1, 1, 1, 1, 0, 1, 0, 0, 0, 0]) = true := by kernel_rfl
    refine P_op k24 (.v (.one (.val (.int .i64 x23)))) (by kernel_rfl) ?_
    refine P_op k24 (.v (.one (.own 2 0 2 v12.1.length))) (by kernel_rfl) ?_
    refine P_op k24 (.v (.one (.val (.int .i64 ((v12.1.length : Nat) : Int))))) (by kernel_rfl) ?_
    refine P_op k24 (.v (.one (.val (.bool (decide (x23 < ((v12.1.length : Nat) : Int))))))) (by kernel_rfl) ?_
    refine HOps_end (by kernel_rfl) ?_
    refine R_cond (.tmp 39) (nd Tryd.f5 [1, 1, 1, 1, 1, 0, 1, 0, 0, 0, 1, 0]) (nd Tryd.f5 [1, 1, 1, 1, 1, 0, 1, 0, 0, 0, 1, 1]) (by kernel_rfl) (decide (x23 < ((v12.1.length : Nat) : Int))) (by kernel_rfl) (fun b25 => ?_) (fun b25 => ?_)
    · replace hm := bif_t b25 hm
      refine R_skip (by kernel_rfl) ?_
      refine R_seq (nd Tryd.f5 [1, 1, 1, 1, 1, 0, 1, 0, 0, 1, 0]) (nd Tryd.f5 [1, 1, 1, 1, 1, 0, 1, 0, 0, 1, 1]) (by kernel_rfl) ?_
      refine R_block 1 (nd Tryd.f5 [1, 1, 1, 1, 1, 0, 1, 0, 0, 1, 0, 0]) (by kernel_rfl) ?_
      refine R_seq (nd Tryd.f5 [1, 1, 1, 1, 1, 0, 1, 0, 0, 1, 0, 0, 0]) (nd Tryd.f5 [1, 1, 1, 1, 1, 0, 1, 0, 0, 1, 0, 0, 1]) (by kernel_rfl) ?_
      obtain ⟨g26, hm⟩ := bif_n hm
      obtain ⟨g27, hm⟩ := bif_n hm
      refine R_draw 10 (rg Tryd.f5 [1, 1, 1, 1, 1, 0, 1, 0, 0, 1, 0, 0, 0]) (by kernel_rfl) [⟨true, .v (.one (.own 2 0 2 v12.1.length)), [], [], [5], []⟩, ⟨true, .v (.one (.val (.int .i64 x23))), [], [], [9], []⟩, ⟨true, .v (.one (.rptr 2 0 2 x23.toNat 0)), [], [], [42, 43], []⟩, ⟨true, .v (.agg [.val (.int .i64 ((v12.1.getD x23.toNat default).X)), .val (.int .i64 ((v12.1.getD x23.toNat default).Y))]), [], [], [44], [2]⟩, ⟨true, .v (.one (.own 3 0 2 v15.1.length)), [], [], [7], []⟩, ⟨true, .v (.one (.val (.int .i64 x23))), [], [], [9], []⟩, ⟨true, .v (.one (.rptr 3 0 2 x23.toNat 0)), [], [], [46, 47], []⟩, ⟨true, .v (.agg [.val (.int .i64 ((v15.1.getD x23.toNat default).X)), .val (.int .i64 ((v15.1.getD x23.toNat default).Y))]), [], [], [48], [3]⟩, ⟨true, .v (.one (.val (.bool (!(((v12.1.getD x23.toNat default).X == (v15.1.getD x23.toNat default).X) && (((v12.1.getD x23.toNat default).Y == (v15.1.getD x23.toNat default).Y) && true)))))), [], [], [45, 49], []⟩] [0, 0, 3, 7, 0, 0, 48, 112, 255] (by kernel_rfl) (by kernel_rfl) (by kernel_rfl) (by kernel_rfl) (by kernel_rfl) (by kernel_rfl) ?_ ?_
      · refine A_pure (.v (.one (.own 2 0 2 v12.1.length))) [5] [] (True) (by kernel_rfl) trivial ?_
        refine A_pure (.v (.one (.val (.int .i64 x23)))) [9] [] (True) (by kernel_rfl) trivial ?_
        refine A_pure (.v (.one (.rptr 2 0 2 x23.toNat 0))) [42, 43] [] (0 ≤ x23 ∧ x23 < ((v12.1.length : Nat) : Int)) (by kernel_rfl) (inb_of g26) ?_
        refine A_pure (.v (.agg [.val (.int .i64 ((v12.1.getD x23.toNat default).X)), .val (.int .i64 ((v12.1.getD x23.toNat default).Y))])) [44] [2] (x23.toNat < v12.1.length) (by kernel_rfl) (toNat_lt (inb_of g26)) ?_
        refine A_pure (.v (.one (.own 3 0 2 v15.1.length))) [7] [] (True) (by kernel_rfl) trivial ?_
        refine A_pure (.v (.one (.val (.int .i64 x23)))) [9] [] (True) (by kernel_rfl) trivial ?_
        refine A_pure (.v (.one (.rptr 3 0 2 x23.toNat 0))) [46, 47] [] (0 ≤ x23 ∧ x23 < ((v15.1.length : Nat) : Int)) (by kernel_rfl) (inb_of g27) ?_
        refine A_pure (.v (.agg [.val (.int .i64 ((v15.1.getD x23.toNat default).X)), .val (.int .i64 ((v15.1.getD x23.toNat default).Y))])) [48] [3] (x23.toNat < v15.1.length) (by kernel_rfl) (toNat_lt (inb_of g27)) ?_
        refine A_pure (.v (.one (.val (.bool (!(((v12.1.getD x23.toNat default).X == (v15.1.getD x23.toNat default).X) && (((v12.1.getD x23.toNat default).Y == (v15.1.getD x23.toNat default).Y) && true))))))) [45, 49] [] (True) (by kernel_rfl) trivial ?_
        exact A_end
      · refine R_cond (.tmp 50) (nd Tryd.f5 [1, 1, 1, 1, 1, 0, 1, 0, 0, 1, 0, 0, 1, 0]) (nd Tryd.f5 [1, 1, 1, 1, 1, 0, 1, 0, 0, 1, 0, 0, 1, 1]) (by kernel_rfl) (!(((v12.1.getD x23.toNat default).X == (v15.1.getD x23.toNat default).X) && (((v12.1.getD x23.toNat default).Y == (v15.1.getD x23.toNat default).Y) && true))) (by kernel_rfl) (fun b28 => ?_) (fun b28 => ?_)
        · replace hm := bif_t b28 hm
          refine R_seq (nd Tryd.f5 [1, 1, 1, 1, 1, 0, 1, 0, 0, 1, 0, 0, 1, 0, 0]) (nd Tryd.f5 [1, 1, 1, 1, 1, 0, 1, 0, 0, 1, 0, 0, 1, 0, 1]) (by kernel_rfl) ?_
          refine R_region 11 (rg Tryd.f5 [1, 1, 1, 1, 1, 0, 1, 0, 0, 1, 0, 0, 1, 0, 0]) (by kernel_rfl) ?_
          have k29 : opsOk 52 (rg Tryd.f5 [1, 1, 1, 1, 1, 0, 1, 0, 0, 1, 0, 0, 1, 0, 0]) = true := by kernel_rfl
          refine P_op k29 (.v (.one (.val (.bool false)))) (by kernel_rfl) ?_
          refine HOps_end (by kernel_rfl) ?_
          obtain rfl := Option.some.inj hm
          refine R_ret (by kernel_rfl) ?_
          refine L1_ret false ?_
          exact ret_mk (by kernel_rfl) (by kernel_rfl)
        · replace hm := bif_f b28 hm
          refine R_skip (by kernel_rfl) ?_
          refine R_region 9 (rg Tryd.f5 [1, 1, 1, 1, 1, 0, 1, 0, 0, 1, 1]) (by kernel_rfl) ?_
          have k30 : opsOk 52 (rg Tryd.f5 [1, 1, 1, 1, 1, 0, 1, 0, 0, 1, 1]) = true := by kernel_rfl
          refine P_op k30 (.v (.one (.val (.int .i64 x23)))) (by kernel_rfl) ?_
          refine P_op k30 (.v (.one (.val (.int .i64 (w64 (x23 + 1)))))) (by kernel_rfl) ?_
          refine P_op k30 (.v (.one (.val (.int .i64 (w64 (x23 + 1)))))) (by kernel_rfl) ?_
          refine HOps_end (by kernel_rfl) ?_
          exact HL_enter (law12_RingRepairs_L2_S v12 v15 (w64 (x23 + 1))) (by kernel_rfl) (by kernel_rfl) (ih (w64 (x23 + 1)) _ hm)
    · replace hm := bif_f b25 hm
      refine R_exit 0 (by kernel_rfl) ?_
      obtain rfl := Option.some.inj hm
      exact L1_mk () (by kernel_rfl) (by kernel_rfl)

set_option maxRecDepth 100000 in
theorem law12_RingRepairs_ok (a1 : Ring) (a2 : Int) (r : Bool) (hm : law12_RingRepairs a1 a2 = some r) : Ct Tryd.prog globs 5 [.agg [.val (.int .i64 a1.Z), tl e_Reading default a1.Read], .one (.val (.int .i64 a2))] (law12_RingRepairs_x r) (law12_RingRepairs_o r) := by
  unfold law12_RingRepairs at hm
  refine Ct_of_H (fn := Tryd.f5) (c := nd Tryd.f5 []) mixed (by kernel_rfl) (by kernel_rfl) (by kernel_rfl) fun w A hg => ?_
  show H ({ P := Tryd.prog, w0 := w, nt := 52, A := A, globs := globs, mixed := mixed, glob := hg } : Ctx) _ _ _
  refine R_seq (nd Tryd.f5 [0]) (nd Tryd.f5 [1]) (by kernel_rfl) ?_
  refine R_region 0 (rg Tryd.f5 [0]) (by kernel_rfl) ?_
  have k3 : opsOk 52 (rg Tryd.f5 [0]) = true := by kernel_rfl
  refine P_step k3 ([(1, 0)]) ([(1, (0, .box 24 [.val (.int .i64 a1.Z), tl e_Reading default a1.Read]))]) (.v (.one (.bptr 1 0 0))) (by kernel_rfl) (Step_box 24 (.tmp 0) 1 0 (.agg [.val (.int .i64 a1.Z), tl e_Reading default a1.Read]) (by kernel_rfl) (by kernel_rfl) (by kernel_rfl)) ?_
  refine P_op k3 (.v (.one (.val (.bool false)))) (by kernel_rfl) ?_
  refine HOps_end (by kernel_rfl) ?_
  refine R_seq (nd Tryd.f5 [1, 0]) (nd Tryd.f5 [1, 1]) (by kernel_rfl) ?_
  refine R_seq (nd Tryd.f5 [1, 0, 0]) (nd Tryd.f5 [1, 0, 1]) (by kernel_rfl) ?_
  refine R_region 1 (rg Tryd.f5 [1, 0, 0]) (by kernel_rfl) ?_
  have k4 : opsOk 52 (rg Tryd.f5 [1, 0, 0]) = true := by kernel_rfl
  refine P_op k4 (.v (.agg [.val (.int .i64 a1.Z), tl e_Reading default a1.Read])) (by kernel_rfl) ?_
  obtain ⟨v5, h6, hm⟩ := bind_s hm
  refine P_step k4 (obNv 2 (law12_few_o v5)) (obSh 2 (law12_few_o v5)) ((law12_few_x v5).sh 2) (by kernel_rfl) (Step_call (x := law12_few_x v5) (ob := law12_few_o v5) (f := 10) (args := [(.tmp 10)]) (fn := Tryd.f10) (ys := [.agg [.val (.int .i64 a1.Z), tl e_Reading default a1.Read]]) 2 (by kernel_rfl) (by kernel_rfl) (by kernel_rfl) (by kernel_rfl) (by kernel_rfl) (by kernel_rfl) rfl (law12_few_ok a1 v5 h6) (by kernel_rfl) (by kernel_rfl)) ?_
  refine P_op k4 (.v (.one (.val (.bool (!v5))))) (by kernel_rfl) ?_
  refine HOps_end (by kernel_rfl) ?_
  refine R_cond (.tmp 12) (nd Tryd.f5 [1, 0, 1, 0]) (nd Tryd.f5 [1, 0, 1, 1]) (by kernel_rfl) (!v5) (by kernel_rfl) (fun b7 => ?_) (fun b7 => ?_)
  · replace hm := bif_t b7 hm
    refine R_seq (nd Tryd.f5 [1, 0, 1, 0, 0]) (nd Tryd.f5 [1, 0, 1, 0, 1]) (by kernel_rfl) ?_
    refine R_region 2 (rg Tryd.f5 [1, 0, 1, 0, 0]) (by kernel_rfl) ?_
    have k8 : opsOk 52 (rg Tryd.f5 [1, 0, 1, 0, 0]) = true := by kernel_rfl
    obtain ⟨v9, h10, hm⟩ := bind_s hm
    refine P_step k8 (obNv 2 (law12_awake_o v9)) (obSh 2 (law12_awake_o v9)) ((law12_awake_x v9).sh 2) (by kernel_rfl) (Step_call (x := law12_awake_x v9) (ob := law12_awake_o v9) (f := 11) (args := []) (fn := Tryd.f11) (ys := []) 2 (by kernel_rfl) (by kernel_rfl) (by kernel_rfl) (by kernel_rfl) (by kernel_rfl) (by kernel_rfl) rfl (law12_awake_ok v9 h10) (by kernel_rfl) (by kernel_rfl)) ?_
    refine P_op k8 (.v (.one (.val (.bool v9)))) (by kernel_rfl) ?_
    refine HOps_end (by kernel_rfl) ?_
    obtain rfl := Option.some.inj hm
    refine R_ret (by kernel_rfl) ?_
    exact ret_mk (by kernel_rfl) (by kernel_rfl)
  · replace hm := bif_f b7 hm
    refine R_skip (by kernel_rfl) ?_
    refine R_seq (nd Tryd.f5 [1, 1, 0]) (nd Tryd.f5 [1, 1, 1]) (by kernel_rfl) ?_
    refine R_region 3 (rg Tryd.f5 [1, 1, 0]) (by kernel_rfl) ?_
    have k11 : opsOk 52 (rg Tryd.f5 [1, 1, 0]) = true := by kernel_rfl
    refine P_op k11 (.v (.agg [.val (.int .i64 a1.Z), tl e_Reading default a1.Read])) (by kernel_rfl) ?_
    refine P_op k11 (.v (.one (.val (.int .i64 a2)))) (by kernel_rfl) ?_
    obtain ⟨v12, h13, hm⟩ := bind_s hm
    refine P_step k11 (obNv 2 (ring_Repair_o v12)) (obSh 2 (ring_Repair_o v12)) ((ring_Repair_x v12).sh 2) (by kernel_rfl) (Step_call (x := ring_Repair_x v12) (ob := ring_Repair_o v12) (f := 21) (args := [(.tmp 15), (.tmp 16)]) (fn := Tryd.f21) (ys := [.agg [.val (.int .i64 a1.Z), tl e_Reading default a1.Read], .one (.val (.int .i64 a2))]) 2 (by kernel_rfl) (by kernel_rfl) (by kernel_rfl) (by kernel_rfl) (by kernel_rfl) (by kernel_rfl) rfl (ring_Repair_ok a1 a2 v12 h13) (by kernel_rfl) (by kernel_rfl)) ?_
    refine P_op k11 (.tup [.one (.own 2 0 2 v12.1.length), .one (.val (.int .i64 v12.2))]) (by kernel_rfl) ?_
    refine P_op k11 (.v (.one (.own 2 0 2 v12.1.length))) (by kernel_rfl) ?_
    refine P_op k11 (.v (.one (.val (.int .i64 v12.2)))) (by kernel_rfl) ?_
    refine P_op k11 (.v (.one (.own 2 0 2 v12.1.length))) (by kernel_rfl) ?_
    refine P_op k11 (.v (.one (.val (.int .i64 v12.2)))) (by kernel_rfl) ?_
    refine HOps_end (by kernel_rfl) ?_
    refine R_seq (nd Tryd.f5 [1, 1, 1, 0]) (nd Tryd.f5 [1, 1, 1, 1]) (by kernel_rfl) ?_
    refine R_region 4 (rg Tryd.f5 [1, 1, 1, 0]) (by kernel_rfl) ?_
    have k14 : opsOk 52 (rg Tryd.f5 [1, 1, 1, 0]) = true := by kernel_rfl
    refine P_op k14 (.v (.agg [.val (.int .i64 a1.Z), tl e_Reading default a1.Read])) (by kernel_rfl) ?_
    refine P_op k14 (.v (.one (.val (.int .i64 a2)))) (by kernel_rfl) ?_
    obtain ⟨v15, h16, hm⟩ := bind_s hm
    refine P_step k14 (obNv 3 (ref12_Repair_o v15)) (obSh 3 (ref12_Repair_o v15)) ((ref12_Repair_x v15).sh 3) (by kernel_rfl) (Step_call (x := ref12_Repair_x v15) (ob := ref12_Repair_o v15) (f := 22) (args := [(.tmp 21), (.tmp 22)]) (fn := Tryd.f22) (ys := [.agg [.val (.int .i64 a1.Z), tl e_Reading default a1.Read], .one (.val (.int .i64 a2))]) 3 (by kernel_rfl) (by kernel_rfl) (by kernel_rfl) (by kernel_rfl) (by kernel_rfl) (by kernel_rfl) rfl (ref12_Repair_ok a1 a2 v15 h16) (by kernel_rfl) (by kernel_rfl)) ?_
    refine P_op k14 (.tup [.one (.own 3 0 2 v15.1.length), .one (.val (.int .i64 v15.2))]) (by kernel_rfl) ?_
    refine P_op k14 (.v (.one (.own 3 0 2 v15.1.length))) (by kernel_rfl) ?_
    refine P_op k14 (.v (.one (.val (.int .i64 v15.2)))) (by kernel_rfl) ?_
    refine P_op k14 (.v (.one (.own 3 0 2 v15.1.length))) (by kernel_rfl) ?_
    refine P_op k14 (.v (.one (.val (.int .i64 v15.2)))) (by kernel_rfl) ?_
    refine HOps_end (by kernel_rfl) ?_
    refine R_seq (nd Tryd.f5 [1, 1, 1, 1, 0]) (nd Tryd.f5 [1, 1, 1, 1, 1]) (by kernel_rfl) ?_
    refine R_join (ι := Bool) (nd Tryd.f5 [1, 1, 1, 1, 0, 0]) (nd Tryd.f5 [1, 1, 1, 1, 0, 1]) (by kernel_rfl) (fun p => law12_RingRepairs_k1_S v12 v15 p) (fun p => law12_RingRepairs_k1 v12 v15 p = some r) ?_ ?_
    · rintro x19 hm
      show H _ (law12_RingRepairs_k1_S v12 v15 x19) (nd Tryd.f5 [1, 1, 1, 1, 0, 1]) _
      refine R_cond (.tmp 35) (nd Tryd.f5 [1, 1, 1, 1, 0, 1, 0]) (nd Tryd.f5 [1, 1, 1, 1, 0, 1, 1]) (by kernel_rfl) x19 (by kernel_rfl) (fun b20 => ?_) (fun b20 => ?_)
      · replace hm := bif_t b20 hm
        refine R_seq (nd Tryd.f5 [1, 1, 1, 1, 0, 1, 0, 0]) (nd Tryd.f5 [1, 1, 1, 1, 0, 1, 0, 1]) (by kernel_rfl) ?_
        refine R_region 6 (rg Tryd.f5 [1, 1, 1, 1, 0, 1, 0, 0]) (by kernel_rfl) ?_
        have k21 : opsOk 52 (rg Tryd.f5 [1, 1, 1, 1, 0, 1, 0, 0]) = true := by kernel_rfl
        refine P_op k21 (.v (.one (.val (.bool false)))) (by kernel_rfl) ?_
        refine HOps_end (by kernel_rfl) ?_
        obtain rfl := Option.some.inj hm
        refine R_ret (by kernel_rfl) ?_
        exact ret_mk (by kernel_rfl) (by kernel_rfl)
      · replace hm := bif_f b20 hm
        refine R_skip (by kernel_rfl) ?_
        refine R_seq (nd Tryd.f5 [1, 1, 1, 1, 1, 0]) (nd Tryd.f5 [1, 1, 1, 1, 1, 1]) (by kernel_rfl) ?_
        refine R_seq (nd Tryd.f5 [1, 1, 1, 1, 1, 0, 0]) (nd Tryd.f5 [1, 1, 1, 1, 1, 0, 1]) (by kernel_rfl) ?_
        refine R_region 7 (rg Tryd.f5 [1, 1, 1, 1, 1, 0, 0]) (by kernel_rfl) ?_
        have k22 : opsOk 52 (rg Tryd.f5 [1, 1, 1, 1, 1, 0, 0]) = true := by kernel_rfl
        refine P_op k22 (.v (.one (.val (.int .i64 0)))) (by kernel_rfl) ?_
        refine HOps_end (by kernel_rfl) ?_
        obtain ⟨u33, h32, hm⟩ := bind_s hm
        refine R_loop1 (nd Tryd.f5 [1, 1, 1, 1, 1, 0, 1, 0, 0]) 0 (by kernel_rfl) FUEL (fun o => law12_RingRepairs_L2_T) (fun v st => RetQ Tryd.prog Tryd.f5 (law12_RingRepairs_x v) (law12_RingRepairs_o v) .ret st) u33 (HL_enter (law12_RingRepairs_L2_S v12 v15 0) (by kernel_rfl) (by kernel_rfl) (law12_RingRepairs_L2_ok w A hg v12 v15 FUEL 0 u33 h32)) ?_ ?_
        · rintro v34 rfl st hr
          obtain rfl := Option.some.inj hm
          exact hr
        · rintro o31 rfl
          replace hm : _ = some r := hm
          refine R_seq (nd Tryd.f5 [1, 1, 1, 1, 1, 1, 0]) (nd Tryd.f5 [1, 1, 1, 1, 1, 1, 1]) (by kernel_rfl) ?_
          refine R_region 12 (rg Tryd.f5 [1, 1, 1, 1, 1, 1, 0]) (by kernel_rfl) ?_
          have k35 : opsOk 52 (rg Tryd.f5 [1, 1, 1, 1, 1, 1, 0]) = true := by kernel_rfl
          obtain ⟨v36, h37, hm⟩ := bind_s hm
          refine P_step k35 (obNv 4 (law12_awake_o v36)) (obSh 4 (law12_awake_o v36)) ((law12_awake_x v36).sh 4) (by kernel_rfl) (Step_call (x := law12_awake_x v36) (ob := law12_awake_o v36) (f := 11) (args := []) (fn := Tryd.f11) (ys := []) 4 (by kernel_rfl) (by kernel_rfl) (by kernel_rfl) (by kernel_rfl) (by kernel_rfl) (by kernel_rfl) rfl (law12_awake_ok v36 h37) (by kernel_rfl) (by kernel_rfl)) ?_
          refine P_op k35 (.v (.one (.val (.bool v36)))) (by kernel_rfl) ?_
          refine HOps_end (by kernel_rfl) ?_
          obtain rfl := Option.some.inj hm
          refine R_ret (by kernel_rfl) ?_
          exact ret_mk (by kernel_rfl) (by kernel_rfl)
    · refine R_region 5 (rg Tryd.f5 [1, 1, 1, 1, 0, 0]) (by kernel_rfl) ?_
      have k17 : opsOk 52 (rg Tryd.f5 [1, 1, 1, 1, 0, 0]) = true := by kernel_rfl
      refine P_op k17 (.v (.one (.val (.int .i64 v12.2)))) (by kernel_rfl) ?_
      refine P_op k17 (.v (.one (.val (.int .i64 v15.2)))) (by kernel_rfl) ?_
      refine P_op k17 (.v (.one (.val (.bool (v12.2 != v15.2))))) (by kernel_rfl) ?_
      refine P_op k17 (.v (.one (.val (.bool (v12.2 != v15.2))))) (by kernel_rfl) ?_
      refine HOps_bool 29 (v12.2 != v15.2) (by kernel_rfl) (fun b18 => ?_) (fun b18 => ?_)
      · replace hm := bif_t b18 hm
        refine P_skip k17 (by kernel_rfl) ?_
        refine P_skip k17 (by kernel_rfl) ?_
        refine P_skip k17 (by kernel_rfl) ?_
        refine P_skip k17 (by kernel_rfl) ?_
        refine P_skip k17 (by kernel_rfl) ?_
        refine P_op k17 (.v (.one (.val (.bool true)))) (by kernel_rfl) ?_
        refine HOps_end (by kernel_rfl) ?_
        exact J_mk (true) hm (by kernel_rfl) (by kernel_rfl)
      · replace hm := bif_f b18 hm
        refine P_op k17 (.v (.one (.own 2 0 2 v12.1.length))) (by kernel_rfl) ?_
        refine P_op k17 (.v (.one (.val (.int .i64 ((v12.1.length : Nat) : Int))))) (by kernel_rfl) ?_
        refine P_op k17 (.v (.one (.own 3 0 2 v15.1.length))) (by kernel_rfl) ?_
        refine P_op k17 (.v (.one (.val (.int .i64 ((v15.1.length : Nat) : Int))))) (by kernel_rfl) ?_
        refine P_op k17 (.v (.one (.val (.bool (((v12.1.length : Nat) : Int) != ((v15.1.length : Nat) : Int)))))) (by kernel_rfl) ?_
        refine P_op k17 (.v (.one (.val (.bool (((v12.1.length : Nat) : Int) != ((v15.1.length : Nat) : Int)))))) (by kernel_rfl) ?_
        refine HOps_end (by kernel_rfl) ?_
        exact J_mk (((v12.1.length : Nat) : Int) != ((v15.1.length : Nat) : Int)) hm (by kernel_rfl) (by kernel_rfl)

end Saw
end Go.SL
