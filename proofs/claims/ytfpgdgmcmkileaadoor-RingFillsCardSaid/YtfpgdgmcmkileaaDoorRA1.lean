import Derived.Test.YtfpgdgmcmkileaaDoorRBase
set_option linter.unusedVariables false
set_option linter.unusedSimpArgs false
namespace Go.SL
namespace Saw
open Go.Proofs
set_option maxHeartbeats 4000000

def law12_few_x (r : Bool) : V := .v (.one (.val (.bool r)))

def law12_few_o (r : Bool) : List (Nat × (Nat × O)) := []

theorem law12_few_f (r : Bool) : Frozen (law12_few_o r) := by
  intro i k o h
  unfold law12_few_o at h
  cases h

set_option maxRecDepth 100000 in
theorem law12_few_ok (a1 : Ring) (r : Bool) (hm : law12_few a1 = some r) : Ct Tryd.prog globs 10 [.agg [.val (.int .i64 a1.Z), tl e_Reading default a1.Read]] (law12_few_x r) (law12_few_o r) := by
  unfold law12_few at hm
  refine Ct_of_H (fn := Tryd.f10) (c := nd Tryd.f10 []) mixed (by kernel_rfl) (by kernel_rfl) (by kernel_rfl) fun w A hg => ?_
  show H ({ P := Tryd.prog, w0 := w, nt := 7, A := A, globs := globs, mixed := mixed, glob := hg } : Ctx) _ _ _
  refine R_seq (nd Tryd.f10 [0]) (nd Tryd.f10 [1]) (by kernel_rfl) ?_
  refine R_region 0 (rg Tryd.f10 [0]) (by kernel_rfl) ?_
  have k2 : opsOk 7 (rg Tryd.f10 [0]) = true := by kernel_rfl
  refine P_step k2 ([(1, 0)]) ([(1, (0, .box 24 [.val (.int .i64 a1.Z), tl e_Reading default a1.Read]))]) (.v (.one (.bptr 1 0 0))) (by kernel_rfl) (Step_box 24 (.tmp 0) 1 0 (.agg [.val (.int .i64 a1.Z), tl e_Reading default a1.Read]) (by kernel_rfl) (by kernel_rfl) (by kernel_rfl)) ?_
  refine P_op k2 (.v (.one (.val (.bool false)))) (by kernel_rfl) ?_
  refine HOps_end (by kernel_rfl) ?_
  refine R_seq (nd Tryd.f10 [1, 0]) (nd Tryd.f10 [1, 1]) (by kernel_rfl) ?_
  refine R_region 1 (rg Tryd.f10 [1, 0]) (by kernel_rfl) ?_
  have k3 : opsOk 7 (rg Tryd.f10 [1, 0]) = true := by kernel_rfl
  refine P_op k3 (.v (.one (.bptr 1 0 1))) (by kernel_rfl) ?_
  refine P_op k3 (.v (.one (tl e_Reading default a1.Read))) (by kernel_rfl) ?_
  refine P_op k3 (.v (.one (.val (.int .i64 ((a1.Read.length : Nat) : Int))))) (by kernel_rfl) ?_
  refine P_op k3 (.v (.one (.val (.bool (decide (((a1.Read.length : Nat) : Int) ≤ 100)))))) (by kernel_rfl) ?_
  refine P_op k3 (.v (.one (.val (.bool (decide (((a1.Read.length : Nat) : Int) ≤ 100)))))) (by kernel_rfl) ?_
  refine HOps_end (by kernel_rfl) ?_
  obtain rfl := Option.some.inj hm
  refine R_ret (by kernel_rfl) ?_
  exact ret_mk (by kernel_rfl) (by kernel_rfl)

end Saw
end Go.SL

namespace Go.SL
namespace Saw
open Go.Proofs
set_option maxHeartbeats 4000000

def law12_Round_x (r : Ring) : V := .v (.agg [.val (.int .i64 r.Z), .own 0 0 3 r.Read.length])

def law12_Round_o (r : Ring) : List (Nat × (Nat × O)) := [(0, (0, .row 44 3 r.Read.length (rowf e_Reading default r.Read)))]

theorem law12_Round_f (r : Ring) : Frozen (law12_Round_o r) := by
  intro i k o h
  unfold law12_Round_o at h
  rw [look_cons] at h
  split at h
  · cases h; exact fun _ _ => rfl
  · cases h

def law12_Round_L1_S (x5 : Int) (l6 : List Reading) (l6n : Nat) : St :=
  { slots := [(0, .v (.one (.bptr 1 0 0))), (1, .v (.one (.own 2 0 2 8))), (2, .v (.one (.bptr 3 0 0))), (3, .v (.one (.val (.int .i64 x5))))], objs := [(1, (0, .box 24 [.val (.int .i64 0), .emp])), (2, (0, .row 38 2 8 (rowf e_Point default ([(Point.mk 100 0), (Point.mk 70 70), (Point.mk 0 100), (Point.mk (-70) 70), (Point.mk (-100) 0), (Point.mk (-70) (-70)), (Point.mk 0 (-100)), (Point.mk 70 (-70))] : List Point)))), (3, (0, .box 24 [.val (.int .i64 0), .own 1001 0 3 l6n])), (1001, (0, .row 44 3 l6n (rowf e_Reading default l6)))] }

def law12_Round_L1_T (l12 : List Reading) : St :=
  { slots := [(0, .v (.one (.bptr 1 0 0))), (2, .v (.one (.bptr 3 0 0)))], objs := [(1, (0, .box 24 [.val (.int .i64 0), .emp])), (3, (0, .box 24 [.val (.int .i64 0), .own 1001 0 3 l12.length])), (1001, (0, .row 44 3 l12.length (rowf e_Reading default l12)))] }

set_option maxRecDepth 100000 in
theorem law12_Round_L1_ok (w : World) (A : Nat → Prop) (hg : Globs globs w A) : ∀ (n : Nat) (x5 : Int) (l6 : List Reading) (l6n : Nat) (res : (List Reading)), l6.length = l6n → law12_Round_L1 n x5 l6 = some res → HL ({ P := Tryd.prog, w0 := w, nt := 30, A := A, globs := globs, mixed := mixed, glob := hg } : Ctx) (nd Tryd.f25 [1, 1, 1, 0, 1, 0, 0]) (loopQ0 0 (fun o => law12_Round_L1_T o) res) n (law12_Round_L1_S x5 l6 l6n) := by
  intro n
  induction n with
  | zero =>
    intro x5 l6 l6n res hl0 hm
    cases hm
  | succ n ih =>
    intro x5 l6 l6n res hl0 hm
    subst hl0
    refine HL_succ ?_
    refine R_seq (nd Tryd.f25 [1, 1, 1, 0, 1, 0, 0, 0]) (nd Tryd.f25 [1, 1, 1, 0, 1, 0, 0, 1]) (by kernel_rfl) ?_
    refine R_seq (nd Tryd.f25 [1, 1, 1, 0, 1, 0, 0, 0, 0]) (nd Tryd.f25 [1, 1, 1, 0, 1, 0, 0, 0, 1]) (by kernel_rfl) ?_
    refine R_region 4 (rg Tryd.f25 [1, 1, 1, 0, 1, 0, 0, 0, 0]) (by kernel_rfl) ?_
    have k7 : opsOk 30 (rg Tryd.f25 [1, 1, 1, 0, 1, 0, 0, 0, 0]) = true := by kernel_rfl
    refine P_op k7 (.v (.one (.val (.int .i64 x5)))) (by kernel_rfl) ?_
    refine P_op k7 (.v (.one (.own 2 0 2 8))) (by kernel_rfl) ?_
    refine P_op k7 (.v (.one (.val (.int .i64 ((8 : Nat) : Int))))) (by kernel_rfl) ?_
    refine P_op k7 (.v (.one (.val (.bool (decide (x5 < ((8 : Nat) : Int))))))) (by kernel_rfl) ?_
    refine HOps_end (by kernel_rfl) ?_
    refine R_cond (.tmp 16) (nd Tryd.f25 [1, 1, 1, 0, 1, 0, 0, 0, 1, 0]) (nd Tryd.f25 [1, 1, 1, 0, 1, 0, 0, 0, 1, 1]) (by kernel_rfl) (decide (x5 < ((8 : Nat) : Int))) (by kernel_rfl) (fun b8 => ?_) (fun b8 => ?_)
    · replace hm := bif_t b8 hm
      refine R_skip (by kernel_rfl) ?_
      refine R_seq (nd Tryd.f25 [1, 1, 1, 0, 1, 0, 0, 1, 0]) (nd Tryd.f25 [1, 1, 1, 0, 1, 0, 0, 1, 1]) (by kernel_rfl) ?_
      refine R_block 1 (nd Tryd.f25 [1, 1, 1, 0, 1, 0, 0, 1, 0, 0]) (by kernel_rfl) ?_
      obtain ⟨g9, hm⟩ := bif_n hm
      obtain ⟨g10, hm⟩ := bif_n hm
      refine R_draw 6 (rg Tryd.f25 [1, 1, 1, 0, 1, 0, 0, 1, 0, 0]) (by kernel_rfl) [⟨true, .v (.one (.bptr 3 0 1)), [], [], [2], []⟩, ⟨true, .v (.one (.own 1001 0 3 l6.length)), [], [], [19], [3]⟩, ⟨true, .v (.one (.own 2 0 2 8)), [], [], [1], []⟩, ⟨true, .v (.one (.val (.int .i64 x5))), [], [], [3], []⟩, ⟨true, .v (.one (.rptr 2 0 2 x5.toNat 0)), [], [], [21, 22], []⟩, ⟨true, .v (.agg [.val (.int .i64 ((([(Point.mk 100 0), (Point.mk 70 70), (Point.mk 0 100), (Point.mk (-70) 70), (Point.mk (-100) 0), (Point.mk (-70) (-70)), (Point.mk 0 (-100)), (Point.mk 70 (-70))] : List Point).getD x5.toNat default).X)), .val (.int .i64 ((([(Point.mk 100 0), (Point.mk 70 70), (Point.mk 0 100), (Point.mk (-70) 70), (Point.mk (-100) 0), (Point.mk (-70) (-70)), (Point.mk 0 (-100)), (Point.mk 70 (-70))] : List Point).getD x5.toNat default).Y))]), [], [], [23], [2]⟩, ⟨true, .v (.agg [.val (.int .i64 ((([(Point.mk 100 0), (Point.mk 70 70), (Point.mk 0 100), (Point.mk (-70) 70), (Point.mk (-100) 0), (Point.mk (-70) (-70)), (Point.mk 0 (-100)), (Point.mk 70 (-70))] : List Point).getD x5.toNat default).X)), .val (.int .i64 ((([(Point.mk 100 0), (Point.mk 70 70), (Point.mk 0 100), (Point.mk (-70) 70), (Point.mk (-100) 0), (Point.mk (-70) (-70)), (Point.mk 0 (-100)), (Point.mk 70 (-70))] : List Point).getD x5.toNat default).Y)), .val (.bool true)]), [], [], [24], []⟩, ⟨true, .v (.one (.own 4 0 3 1)), [(4, 0)], [(4, (0, .row 44 3 1 (rowf e_Reading default ([(Reading.mk (([(Point.mk 100 0), (Point.mk 70 70), (Point.mk 0 100), (Point.mk (-70) 70), (Point.mk (-100) 0), (Point.mk (-70) (-70)), (Point.mk 0 (-100)), (Point.mk 70 (-70))] : List Point).getD x5.toNat default) true)] : List Reading))))], [25], []⟩, ⟨true, .v (.one (.own 1001 1 3 (l6.length + 1))), [(1001, 1)], [(1001, (1, .row 44 3 (l6.length + 1) (rowf e_Reading default (l6 ++ ([(Reading.mk (([(Point.mk 100 0), (Point.mk 70 70), (Point.mk 0 100), (Point.mk (-70) 70), (Point.mk (-100) 0), (Point.mk (-70) (-70)), (Point.mk 0 (-100)), (Point.mk 70 (-70))] : List Point).getD x5.toNat default) true)] : List Reading)))))], [20, 26], [4, 1001]⟩, ⟨true, .v (.one (.bptr 3 0 1)), [], [], [2], []⟩, ⟨true, .undef, [], [(3, (0, .box 24 [.val (.int .i64 0), .own 1001 1 3 (l6.length + 1)]))], [27, 28], [3]⟩] [0, 1, 0, 0, 12, 28, 60, 124, 255, 511, 1023] (by kernel_rfl) (by kernel_rfl) (by kernel_rfl) (by kernel_rfl) (by kernel_rfl) (by kernel_rfl) ?_ ?_
      · refine A_pure (.v (.one (.bptr 3 0 1))) [2] [] (True) (by kernel_rfl) trivial ?_
        refine A_pure (.v (.one (.own 1001 0 3 l6.length))) [19] [3] (True) (by kernel_rfl) trivial ?_
        refine A_pure (.v (.one (.own 2 0 2 8))) [1] [] (True) (by kernel_rfl) trivial ?_
        refine A_pure (.v (.one (.val (.int .i64 x5)))) [3] [] (True) (by kernel_rfl) trivial ?_
        refine A_pure (.v (.one (.rptr 2 0 2 x5.toNat 0))) [21, 22] [] (0 ≤ x5 ∧ x5 < ((8 : Nat) : Int)) (by kernel_rfl) (inb_of g9) ?_
        refine A_pure (.v (.agg [.val (.int .i64 ((([(Point.mk 100 0), (Point.mk 70 70), (Point.mk 0 100), (Point.mk (-70) 70), (Point.mk (-100) 0), (Point.mk (-70) (-70)), (Point.mk 0 (-100)), (Point.mk 70 (-70))] : List Point).getD x5.toNat default).X)), .val (.int .i64 ((([(Point.mk 100 0), (Point.mk 70 70), (Point.mk 0 100), (Point.mk (-70) 70), (Point.mk (-100) 0), (Point.mk (-70) (-70)), (Point.mk 0 (-100)), (Point.mk 70 (-70))] : List Point).getD x5.toNat default).Y))])) [23] [2] (x5.toNat < 8) (by kernel_rfl) (toNat_lt (inb_of g9)) ?_
        refine A_pure (.v (.agg [.val (.int .i64 ((([(Point.mk 100 0), (Point.mk 70 70), (Point.mk 0 100), (Point.mk (-70) 70), (Point.mk (-100) 0), (Point.mk (-70) (-70)), (Point.mk 0 (-100)), (Point.mk 70 (-70))] : List Point).getD x5.toNat default).X)), .val (.int .i64 ((([(Point.mk 100 0), (Point.mk 70 70), (Point.mk 0 100), (Point.mk (-70) 70), (Point.mk (-100) 0), (Point.mk (-70) (-70)), (Point.mk 0 (-100)), (Point.mk 70 (-70))] : List Point).getD x5.toNat default).Y)), .val (.bool true)])) [24] [] (True) (by kernel_rfl) trivial ?_
        refine A_run ⟨true, .v (.one (.own 4 0 3 1)), [(4, 0)], [(4, (0, .row 44 3 1 (rowf e_Reading default ([(Reading.mk (([(Point.mk 100 0), (Point.mk 70 70), (Point.mk 0 100), (Point.mk (-70) 70), (Point.mk (-100) 0), (Point.mk (-70) (-70)), (Point.mk 0 (-100)), (Point.mk 70 (-70))] : List Point).getD x5.toNat default) true)] : List Reading))))], [25], []⟩ (by kernel_rfl) (Step_lit 22 44 1 #[(0, (.tmp 25))] 4 0 Tryd.t44 [.val (.int .i64 0), .val (.int .i64 0), .val (.bool false)] [(0, .agg [.val (.int .i64 ((([(Point.mk 100 0), (Point.mk 70 70), (Point.mk 0 100), (Point.mk (-70) 70), (Point.mk (-100) 0), (Point.mk (-70) (-70)), (Point.mk 0 (-100)), (Point.mk 70 (-70))] : List Point).getD x5.toNat default).X)), .val (.int .i64 ((([(Point.mk 100 0), (Point.mk 70 70), (Point.mk 0 100), (Point.mk (-70) 70), (Point.mk (-100) 0), (Point.mk (-70) (-70)), (Point.mk 0 (-100)), (Point.mk 70 (-70))] : List Point).getD x5.toNat default).Y)), .val (.bool true)])] [.val (.int .i64 ((([(Point.mk 100 0), (Point.mk 70 70), (Point.mk 0 100), (Point.mk (-70) 70), (Point.mk (-100) 0), (Point.mk (-70) (-70)), (Point.mk 0 (-100)), (Point.mk 70 (-70))] : List Point).getD x5.toNat default).X)), .val (.int .i64 ((([(Point.mk 100 0), (Point.mk 70 70), (Point.mk 0 100), (Point.mk (-70) 70), (Point.mk (-100) 0), (Point.mk (-70) (-70)), (Point.mk 0 (-100)), (Point.mk 70 (-70))] : List Point).getD x5.toNat default).Y)), .val (.bool true)] (by kernel_rfl) (by kernel_rfl) (by kernel_rfl) (by kernel_rfl) (by kernel_rfl) (by kernel_rfl) (by kernel_rfl) (by kernel_rfl) (by kernel_rfl) (by kernel_rfl) (by kernel_rfl) (rowf e_Reading default ([(Reading.mk (([(Point.mk 100 0), (Point.mk 70 70), (Point.mk 0 100), (Point.mk (-70) 70), (Point.mk (-100) 0), (Point.mk (-70) (-70)), (Point.mk 0 (-100)), (Point.mk 70 (-70))] : List Point).getD x5.toNat default) true)] : List Reading)) (lit_succ (n := 0) lit_zero (by kernel_rfl))) ?_
        refine A_run ⟨true, .v (.one (.own 1001 1 3 (l6.length + 1))), [(1001, 1)], [(1001, (1, .row 44 3 (l6.length + 1) (rowf e_Reading default (l6 ++ ([(Reading.mk (([(Point.mk 100 0), (Point.mk 70 70), (Point.mk 0 100), (Point.mk (-70) 70), (Point.mk (-100) 0), (Point.mk (-70) (-70)), (Point.mk 0 (-100)), (Point.mk 70 (-70))] : List Point).getD x5.toNat default) true)] : List Reading)))))], [20, 26], [4, 1001]⟩ (by kernel_rfl) (Step_append (.tmp 20) (.tmp 26) 22 44 1001 0 1 l6.length l6.length 1 Tryd.t44 (.agg #[.int .i64 0, .int .i64 0, .bool false]) (rowf e_Reading default l6) (rowf e_Reading default ([(Reading.mk (([(Point.mk 100 0), (Point.mk 70 70), (Point.mk 0 100), (Point.mk (-70) 70), (Point.mk (-100) 0), (Point.mk (-70) (-70)), (Point.mk 0 (-100)), (Point.mk 70 (-70))] : List Point).getD x5.toNat default) true)] : List Reading)) (rowf e_Reading default (l6 ++ ([(Reading.mk (([(Point.mk 100 0), (Point.mk 70 70), (Point.mk 0 100), (Point.mk (-70) 70), (Point.mk (-100) 0), (Point.mk (-70) (-70)), (Point.mk 0 (-100)), (Point.mk 70 (-70))] : List Point).getD x5.toNat default) true)] : List Reading))) (.one (.own 4 0 3 1)) (1 ≤ 1) (by kernel_rfl) (by kernel_rfl) (by kernel_rfl) (by kernel_rfl) (by kernel_rfl) (by kernel_rfl) (by kernel_rfl) (by kernel_rfl) (by kernel_rfl) (by kernel_rfl) (by kernel_rfl) (Nat.le_refl _) (fun _ _ => by kernel_rfl) (Nat.le_refl _) (room_of g10) (rowf_app e_Reading default l6 ([(Reading.mk (([(Point.mk 100 0), (Point.mk 70 70), (Point.mk 0 100), (Point.mk (-70) 70), (Point.mk (-100) 0), (Point.mk (-70) (-70)), (Point.mk 0 (-100)), (Point.mk 70 (-70))] : List Point).getD x5.toNat default) true)] : List Reading) l6.length 1 rfl rfl)) ?_
        refine A_pure (.v (.one (.bptr 3 0 1))) [2] [] (True) (by kernel_rfl) trivial ?_
        refine A_run ⟨true, .undef, [], [(3, (0, .box 24 [.val (.int .i64 0), .own 1001 1 3 (l6.length + 1)]))], [27, 28], [3]⟩ (by kernel_rfl) (Step_store_box 22 (.tmp 28) (.tmp 27) 3 0 1 24 [.val (.int .i64 0), .own 1001 0 3 l6.length] (.one (.own 1001 1 3 (l6.length + 1))) [.val (.int .i64 0), .own 1001 1 3 (l6.length + 1)] (by kernel_rfl) (by kernel_rfl) (by kernel_rfl) (by kernel_rfl) (by kernel_rfl) (by kernel_rfl) (by kernel_rfl) (by kernel_rfl)) ?_
        exact A_end
      · refine R_region 5 (rg Tryd.f25 [1, 1, 1, 0, 1, 0, 0, 1, 1]) (by kernel_rfl) ?_
        have k11 : opsOk 30 (rg Tryd.f25 [1, 1, 1, 0, 1, 0, 0, 1, 1]) = true := by kernel_rfl
        refine P_op k11 (.v (.one (.val (.int .i64 x5)))) (by kernel_rfl) ?_
        refine P_op k11 (.v (.one (.val (.int .i64 (w64 (x5 + 1)))))) (by kernel_rfl) ?_
        refine P_op k11 (.v (.one (.val (.int .i64 (w64 (x5 + 1)))))) (by kernel_rfl) ?_
        refine HOps_end (by kernel_rfl) ?_
        exact HL_enter (law12_Round_L1_S (w64 (x5 + 1)) (l6 ++ ([(Reading.mk (([(Point.mk 100 0), (Point.mk 70 70), (Point.mk 0 100), (Point.mk (-70) 70), (Point.mk (-100) 0), (Point.mk (-70) (-70)), (Point.mk 0 (-100)), (Point.mk 70 (-70))] : List Point).getD x5.toNat default) true)] : List Reading)) (l6.length + 1)) (by kernel_rfl) (by kernel_rfl) (ih (w64 (x5 + 1)) (l6 ++ ([(Reading.mk (([(Point.mk 100 0), (Point.mk 70 70), (Point.mk 0 100), (Point.mk (-70) 70), (Point.mk (-100) 0), (Point.mk (-70) (-70)), (Point.mk 0 (-100)), (Point.mk 70 (-70))] : List Point).getD x5.toNat default) true)] : List Reading)) (l6.length + 1) _ (len_app rfl rfl) hm)
    · replace hm := bif_f b8 hm
      refine R_exit 0 (by kernel_rfl) ?_
      obtain rfl := Option.some.inj hm
      exact L0_mk (by kernel_rfl) (by kernel_rfl)

set_option maxRecDepth 100000 in
theorem law12_Round_ok (r : Ring) (hm : law12_Round = some r) : Ct Tryd.prog globs 25 [] (law12_Round_x r) (law12_Round_o r) := by
  unfold law12_Round at hm
  refine Ct_of_H (fn := Tryd.f25) (c := nd Tryd.f25 []) mixed (by kernel_rfl) (by kernel_rfl) (by kernel_rfl) fun w A hg => ?_
  show H ({ P := Tryd.prog, w0 := w, nt := 30, A := A, globs := globs, mixed := mixed, glob := hg } : Ctx) _ _ _
  refine R_seq (nd Tryd.f25 [0]) (nd Tryd.f25 [1]) (by kernel_rfl) ?_
  refine R_region 0 (rg Tryd.f25 [0]) (by kernel_rfl) ?_
  have k1 : opsOk 30 (rg Tryd.f25 [0]) = true := by kernel_rfl
  refine P_step k1 ([(1, 0)]) ([(1, (0, .box 24 [.val (.int .i64 0), .emp]))]) (.v (.one (.bptr 1 0 0))) (by kernel_rfl) (Step_alloc 24 1 0 [.val (.int .i64 0), .emp] (by kernel_rfl) (by kernel_rfl) (by kernel_rfl)) ?_
  refine HOps_end (by kernel_rfl) ?_
  refine R_seq (nd Tryd.f25 [1, 0]) (nd Tryd.f25 [1, 1]) (by kernel_rfl) ?_
  refine R_region 1 (rg Tryd.f25 [1, 0]) (by kernel_rfl) ?_
  have k2 : opsOk 30 (rg Tryd.f25 [1, 0]) = true := by kernel_rfl
  refine P_op k2 (.v (.agg [.val (.int .i64 100), .val (.int .i64 0)])) (by kernel_rfl) ?_
  refine P_op k2 (.v (.agg [.val (.int .i64 70), .val (.int .i64 70)])) (by kernel_rfl) ?_
  refine P_op k2 (.v (.agg [.val (.int .i64 0), .val (.int .i64 100)])) (by kernel_rfl) ?_
  refine P_op k2 (.v (.agg [.val (.int .i64 (-70)), .val (.int .i64 70)])) (by kernel_rfl) ?_
  refine P_op k2 (.v (.agg [.val (.int .i64 (-100)), .val (.int .i64 0)])) (by kernel_rfl) ?_
  refine P_op k2 (.v (.agg [.val (.int .i64 (-70)), .val (.int .i64 (-70))])) (by kernel_rfl) ?_
  refine P_op k2 (.v (.agg [.val (.int .i64 0), .val (.int .i64 (-100))])) (by kernel_rfl) ?_
  refine P_op k2 (.v (.agg [.val (.int .i64 70), .val (.int .i64 (-70))])) (by kernel_rfl) ?_
  refine P_step k2 ([(2, 0)]) ([(2, (0, .row 38 2 8 (rowf e_Point default ([(Point.mk 100 0), (Point.mk 70 70), (Point.mk 0 100), (Point.mk (-70) 70), (Point.mk (-100) 0), (Point.mk (-70) (-70)), (Point.mk 0 (-100)), (Point.mk 70 (-70))] : List Point))))]) (.v (.one (.own 2 0 2 8))) (by kernel_rfl) (Step_lit 34 38 8 #[(0, (.tmp 4)), (1, (.tmp 5)), (2, (.tmp 6)), (3, (.tmp 7)), (4, (.tmp 8)), (5, (.tmp 9)), (6, (.tmp 10)), (7, (.tmp 11))] 2 0 Tryd.t38 [.val (.int .i64 0), .val (.int .i64 0)] [(0, .agg [.val (.int .i64 100), .val (.int .i64 0)]), (1, .agg [.val (.int .i64 70), .val (.int .i64 70)]), (2, .agg [.val (.int .i64 0), .val (.int .i64 100)]), (3, .agg [.val (.int .i64 (-70)), .val (.int .i64 70)]), (4, .agg [.val (.int .i64 (-100)), .val (.int .i64 0)]), (5, .agg [.val (.int .i64 (-70)), .val (.int .i64 (-70))]), (6, .agg [.val (.int .i64 0), .val (.int .i64 (-100))]), (7, .agg [.val (.int .i64 70), .val (.int .i64 (-70))])] [.val (.int .i64 100), .val (.int .i64 0), .val (.int .i64 70), .val (.int .i64 70), .val (.int .i64 0), .val (.int .i64 100), .val (.int .i64 (-70)), .val (.int .i64 70), .val (.int .i64 (-100)), .val (.int .i64 0), .val (.int .i64 (-70)), .val (.int .i64 (-70)), .val (.int .i64 0), .val (.int .i64 (-100)), .val (.int .i64 70), .val (.int .i64 (-70))] (by kernel_rfl) (by kernel_rfl) (by kernel_rfl) (by kernel_rfl) (by kernel_rfl) (by kernel_rfl) (by kernel_rfl) (by kernel_rfl) (by kernel_rfl) (by kernel_rfl) (by kernel_rfl) (rowf e_Point default ([(Point.mk 100 0), (Point.mk 70 70), (Point.mk 0 100), (Point.mk (-70) 70), (Point.mk (-100) 0), (Point.mk (-70) (-70)), (Point.mk 0 (-100)), (Point.mk 70 (-70))] : List Point)) (lit_succ (n := 7) (lit_succ (n := 6) (lit_succ (n := 5) (lit_succ (n := 4) (lit_succ (n := 3) (lit_succ (n := 2) (lit_succ (n := 1) (lit_succ (n := 0) lit_zero (by kernel_rfl)) (by kernel_rfl)) (by kernel_rfl)) (by kernel_rfl)) (by kernel_rfl)) (by kernel_rfl)) (by kernel_rfl)) (by kernel_rfl))) ?_
  refine P_op k2 (.v (.one (.own 2 0 2 8))) (by kernel_rfl) ?_
  refine HOps_end (by kernel_rfl) ?_
  refine R_seq (nd Tryd.f25 [1, 1, 0]) (nd Tryd.f25 [1, 1, 1]) (by kernel_rfl) ?_
  refine R_region 2 (rg Tryd.f25 [1, 1, 0]) (by kernel_rfl) ?_
  have k3 : opsOk 30 (rg Tryd.f25 [1, 1, 0]) = true := by kernel_rfl
  refine P_step k3 ([(3, 0)]) ([(3, (0, .box 24 [.val (.int .i64 0), .emp]))]) (.v (.one (.bptr 3 0 0))) (by kernel_rfl) (Step_alloc 24 3 0 [.val (.int .i64 0), .emp] (by kernel_rfl) (by kernel_rfl) (by kernel_rfl)) ?_
  refine HOps_end (by kernel_rfl) ?_
  refine R_seq (nd Tryd.f25 [1, 1, 1, 0]) (nd Tryd.f25 [1, 1, 1, 1]) (by kernel_rfl) ?_
  refine R_seq (nd Tryd.f25 [1, 1, 1, 0, 0]) (nd Tryd.f25 [1, 1, 1, 0, 1]) (by kernel_rfl) ?_
  refine R_region 3 (rg Tryd.f25 [1, 1, 1, 0, 0]) (by kernel_rfl) ?_
  have k4 : opsOk 30 (rg Tryd.f25 [1, 1, 1, 0, 0]) = true := by kernel_rfl
  refine P_op k4 (.v (.one (.val (.int .i64 0)))) (by kernel_rfl) ?_
  refine HOps_ownB 3 0 24 1 1001 44 3 [.val (.int .i64 0), .emp] (rowf e_Reading default ([] : List Reading)) (by kernel_rfl) ?_
  refine HOps_end (by kernel_rfl) ?_
  obtain ⟨o13, h14, hm⟩ := bind_s hm
  refine R_loop0 (nd Tryd.f25 [1, 1, 1, 0, 1, 0, 0]) 0 (by kernel_rfl) FUEL (fun o => law12_Round_L1_T o) o13 (HL_enter (law12_Round_L1_S 0 ([] : List Reading) 0) (by kernel_rfl) (by kernel_rfl) (law12_Round_L1_ok w A hg  FUEL 0 ([] : List Reading) 0 o13 rfl h14)) ?_
  refine R_seq (nd Tryd.f25 [1, 1, 1, 1, 0]) (nd Tryd.f25 [1, 1, 1, 1, 1]) (by kernel_rfl) ?_
  refine R_region 7 (rg Tryd.f25 [1, 1, 1, 1, 0]) (by kernel_rfl) ?_
  have k15 : opsOk 30 (rg Tryd.f25 [1, 1, 1, 1, 0]) = true := by kernel_rfl
  refine P_op k15 (.v (.agg [.val (.int .i64 0), .own 1001 0 3 o13.length])) (by kernel_rfl) ?_
  refine P_write k15 ([(1, (0, .box 24 [.val (.int .i64 0), .own 1001 0 3 o13.length]))]) (.undef) (by kernel_rfl) (Step_store_box 24 (.tmp 0) (.tmp 29) 1 0 0 24 [.val (.int .i64 0), .emp] (.agg [.val (.int .i64 0), .own 1001 0 3 o13.length]) [.val (.int .i64 0), .own 1001 0 3 o13.length] (by kernel_rfl) (by kernel_rfl) (by kernel_rfl) (by kernel_rfl) (by kernel_rfl) (by kernel_rfl) (by kernel_rfl) (by kernel_rfl)) ?_
  refine HOps_end (by kernel_rfl) ?_
  obtain rfl := Option.some.inj hm
  refine H_swap 1001 0 ?_
  refine R_ret (by kernel_rfl) ?_
  exact ret_mk (by kernel_rfl) (by kernel_rfl)

end Saw
end Go.SL

namespace Go.SL
namespace Saw
open Go.Proofs
set_option maxHeartbeats 4000000

def ring_within_x (r : Bool) : V := .v (.one (.val (.bool r)))

def ring_within_o (r : Bool) : List (Nat × (Nat × O)) := []

theorem ring_within_f (r : Bool) : Frozen (ring_within_o r) := by
  intro i k o h
  unfold ring_within_o at h
  cases h

def ring_within_k1_S (x5 : Bool) : St :=
  { slots := [(2, .v (.one (.val (.bool x5))))], objs := [] }

set_option maxRecDepth 100000 in
theorem ring_within_ok (a1 : Int) (r : Bool) (hm : ring_within a1 = some r) : Ct Tryd.prog globs 28 [.one (.val (.int .i64 a1))] (ring_within_x r) (ring_within_o r) := by
  unfold ring_within at hm
  refine Ct_of_H (fn := Tryd.f28) (c := nd Tryd.f28 []) mixed (by kernel_rfl) (by kernel_rfl) (by kernel_rfl) fun w A hg => ?_
  show H ({ P := Tryd.prog, w0 := w, nt := 9, A := A, globs := globs, mixed := mixed, glob := hg } : Ctx) _ _ _
  refine R_seq (nd Tryd.f28 [0]) (nd Tryd.f28 [1]) (by kernel_rfl) ?_
  refine R_region 0 (rg Tryd.f28 [0]) (by kernel_rfl) ?_
  have k2 : opsOk 9 (rg Tryd.f28 [0]) = true := by kernel_rfl
  refine P_op k2 (.v (.one (.val (.bool false)))) (by kernel_rfl) ?_
  refine HOps_end (by kernel_rfl) ?_
  refine R_join (ι := Bool) (nd Tryd.f28 [1, 0]) (nd Tryd.f28 [1, 1]) (by kernel_rfl) (fun p => ring_within_k1_S p) (fun p => ring_within_k1 p = some r) ?_ ?_
  · rintro x5 hm
    show H _ (ring_within_k1_S x5) (nd Tryd.f28 [1, 1]) _
    obtain rfl := Option.some.inj hm
    refine R_ret (by kernel_rfl) ?_
    exact ret_mk (by kernel_rfl) (by kernel_rfl)
  · refine R_region 1 (rg Tryd.f28 [1, 0]) (by kernel_rfl) ?_
    have k3 : opsOk 9 (rg Tryd.f28 [1, 0]) = true := by kernel_rfl
    refine P_op k3 (.v (.one (.val (.int .i64 a1)))) (by kernel_rfl) ?_
    refine P_op k3 (.v (.one (.val (.bool (decide (a1 ≥ (-600))))))) (by kernel_rfl) ?_
    refine P_op k3 (.v (.one (.val (.bool (decide (a1 ≥ (-600))))))) (by kernel_rfl) ?_
    refine HOps_bool 5 (decide (a1 ≥ (-600))) (by kernel_rfl) (fun b4 => ?_) (fun b4 => ?_)
    · replace hm := bif_t b4 hm
      refine P_op k3 (.v (.one (.val (.int .i64 a1)))) (by kernel_rfl) ?_
      refine P_op k3 (.v (.one (.val (.bool (decide (a1 ≤ 600)))))) (by kernel_rfl) ?_
      refine P_op k3 (.v (.one (.val (.bool (decide (a1 ≤ 600)))))) (by kernel_rfl) ?_
      refine P_op k3 (.v (.one (.val (.bool (decide (a1 ≤ 600)))))) (by kernel_rfl) ?_
      refine HOps_end (by kernel_rfl) ?_
      exact J_mk (decide (a1 ≤ 600)) hm (by kernel_rfl) (by kernel_rfl)
    · replace hm := bif_f b4 hm
      refine P_skip k3 (by kernel_rfl) ?_
      refine P_skip k3 (by kernel_rfl) ?_
      refine P_op k3 (.v (.one (.val (.bool false)))) (by kernel_rfl) ?_
      refine P_op k3 (.v (.one (.val (.bool false)))) (by kernel_rfl) ?_
      refine HOps_end (by kernel_rfl) ?_
      exact J_mk (false) hm (by kernel_rfl) (by kernel_rfl)

end Saw
end Go.SL

namespace Go.SL
namespace Saw
open Go.Proofs
set_option maxHeartbeats 4000000

def ring_Check_x (r : Int) : V := .v (.one (.val (.int .i64 r)))

def ring_Check_o (r : Int) : List (Nat × (Nat × O)) := []

theorem ring_Check_f (r : Int) : Frozen (ring_Check_o r) := by
  intro i k o h
  unfold ring_Check_o at h
  cases h

def ring_Check_k4_S (a1 : Ring) (x15 : Int) (x32 : Bool) : St :=
  { slots := [(22, .v (.one (tl e_Reading default a1.Read))), (23, .v (.one (.val (.int .i64 ((a1.Read.length : Nat) : Int))))), (24, .v (.one (.val (.int .i64 x15)))), (52, .v (.one (.val (.bool x32))))], objs := [] }

def ring_Check_k3_S (a1 : Ring) (x15 : Int) (x27 : Bool) : St :=
  { slots := [(4, .v (.one (.bptr 2 0 0))), (22, .v (.one (tl e_Reading default a1.Read))), (23, .v (.one (.val (.int .i64 ((a1.Read.length : Nat) : Int))))), (24, .v (.one (.val (.int .i64 x15)))), (43, .v (.one (.val (.bool x27))))], objs := [(2, (0, .box 44 [.val (.int .i64 (((a1.Read.getD x15.toNat default).P).X)), .val (.int .i64 (((a1.Read.getD x15.toNat default).P).Y)), .val (.bool ((a1.Read.getD x15.toNat default).Ok))]))] }

def ring_Check_L2_S (a1 : Ring) (x15 : Int) : St :=
  { slots := [(22, .v (.one (tl e_Reading default a1.Read))), (23, .v (.one (.val (.int .i64 ((a1.Read.length : Nat) : Int))))), (24, .v (.one (.val (.int .i64 x15))))], objs := [] }

def ring_Check_L2_T : St :=
  { slots := [], objs := [] }

def ring_Check_k1_S (a1 : Ring) (x11 : Bool) : St :=
  { slots := [(1, .v (.one (.bptr 1 0 0))), (20, .v (.one (.val (.bool x11))))], objs := [(1, (0, .box 24 [.val (.int .i64 a1.Z), tl e_Reading default a1.Read]))] }

set_option maxRecDepth 100000 in
theorem ring_Check_L2_ok (w : World) (A : Nat → Prop) (hg : Globs globs w A) (a1 : Ring) : ∀ (n : Nat) (x15 : Int) (res : Int ⊕ Unit), ring_Check_L2 a1 n x15 = some res → HL ({ P := Tryd.prog, w0 := w, nt := 54, A := A, globs := globs, mixed := mixed, glob := hg } : Ctx) (nd Tryd.f14 [1, 1, 1, 1, 0, 1, 0, 0]) (loopQ 0 (fun o => ring_Check_L2_T) (fun v st => RetQ Tryd.prog Tryd.f14 (ring_Check_x v) (ring_Check_o v) .ret st) res) n (ring_Check_L2_S a1 x15) := by
  intro n
  induction n with
  | zero =>
    intro x15 res hm
    cases hm
  | succ n ih =>
    intro x15 res hm
    refine HL_succ ?_
    refine R_seq (nd Tryd.f14 [1, 1, 1, 1, 0, 1, 0, 0, 0]) (nd Tryd.f14 [1, 1, 1, 1, 0, 1, 0, 0, 1]) (by kernel_rfl) ?_
    refine R_region 8 (rg Tryd.f14 [1, 1, 1, 1, 0, 1, 0, 0, 0]) (by kernel_rfl) ?_
    have k16 : opsOk 54 (rg Tryd.f14 [1, 1, 1, 1, 0, 1, 0, 0, 0]) = true := by kernel_rfl
    refine P_op k16 (.v (.one (.val (.bool (decide (x15 < ((a1.Read.length : Nat) : Int))))))) (by kernel_rfl) ?_
    refine HOps_end (by kernel_rfl) ?_
    refine R_seq (nd Tryd.f14 [1, 1, 1, 1, 0, 1, 0, 0, 1, 0]) (nd Tryd.f14 [1, 1, 1, 1, 0, 1, 0, 0, 1, 1]) (by kernel_rfl) ?_
    refine R_cond (.tmp 25) (nd Tryd.f14 [1, 1, 1, 1, 0, 1, 0, 0, 1, 0, 0]) (nd Tryd.f14 [1, 1, 1, 1, 0, 1, 0, 0, 1, 0, 1]) (by kernel_rfl) (decide (x15 < ((a1.Read.length : Nat) : Int))) (by kernel_rfl) (fun b17 => ?_) (fun b17 => ?_)
    · replace hm := bif_t b17 hm
      refine R_skip (by kernel_rfl) ?_
      refine R_seq (nd Tryd.f14 [1, 1, 1, 1, 0, 1, 0, 0, 1, 1, 0]) (nd Tryd.f14 [1, 1, 1, 1, 0, 1, 0, 0, 1, 1, 1]) (by kernel_rfl) ?_
      refine R_block 1 (nd Tryd.f14 [1, 1, 1, 1, 0, 1, 0, 0, 1, 1, 0, 0]) (by kernel_rfl) ?_
      refine R_seq (nd Tryd.f14 [1, 1, 1, 1, 0, 1, 0, 0, 1, 1, 0, 0, 0]) (nd Tryd.f14 [1, 1, 1, 1, 0, 1, 0, 0, 1, 1, 0, 0, 1]) (by kernel_rfl) ?_
      refine R_region 9 (rg Tryd.f14 [1, 1, 1, 1, 0, 1, 0, 0, 1, 1, 0, 0, 0]) (by kernel_rfl) ?_
      have k18 : opsOk 54 (rg Tryd.f14 [1, 1, 1, 1, 0, 1, 0, 0, 1, 1, 0, 0, 0]) = true := by kernel_rfl
      obtain ⟨g19, hm⟩ := bif_n hm
      refine P_opc k18 (.v (.one (.lptr (e_Reading (a1.Read.getD x15.toNat default))))) (0 ≤ x15 ∧ x15 < ((a1.Read.length : Nat) : Int)) (by kernel_rfl) (inb_of g19) ?_
      refine P_op k18 (.v (.agg [.val (.int .i64 (((a1.Read.getD x15.toNat default).P).X)), .val (.int .i64 (((a1.Read.getD x15.toNat default).P).Y)), .val (.bool ((a1.Read.getD x15.toNat default).Ok))])) (by kernel_rfl) ?_
      refine P_step k18 ([(2, 0)]) ([(2, (0, .box 44 [.val (.int .i64 0), .val (.int .i64 0), .val (.bool false)]))]) (.v (.one (.bptr 2 0 0))) (by kernel_rfl) (Step_alloc 44 2 0 [.val (.int .i64 0), .val (.int .i64 0), .val (.bool false)] (by kernel_rfl) (by kernel_rfl) (by kernel_rfl)) ?_
      refine P_write k18 ([(2, (0, .box 44 [.val (.int .i64 (((a1.Read.getD x15.toNat default).P).X)), .val (.int .i64 (((a1.Read.getD x15.toNat default).P).Y)), .val (.bool ((a1.Read.getD x15.toNat default).Ok))]))]) (.undef) (by kernel_rfl) (Step_store_box 44 (.tmp 4) (.tmp 27) 2 0 0 44 [.val (.int .i64 0), .val (.int .i64 0), .val (.bool false)] (.agg [.val (.int .i64 (((a1.Read.getD x15.toNat default).P).X)), .val (.int .i64 (((a1.Read.getD x15.toNat default).P).Y)), .val (.bool ((a1.Read.getD x15.toNat default).Ok))]) [.val (.int .i64 (((a1.Read.getD x15.toNat default).P).X)), .val (.int .i64 (((a1.Read.getD x15.toNat default).P).Y)), .val (.bool ((a1.Read.getD x15.toNat default).Ok))] (by kernel_rfl) (by kernel_rfl) (by kernel_rfl) (by kernel_rfl) (by kernel_rfl) (by kernel_rfl) (by kernel_rfl) (by kernel_rfl)) ?_
      refine HOps_end (by kernel_rfl) ?_
      refine R_seq (nd Tryd.f14 [1, 1, 1, 1, 0, 1, 0, 0, 1, 1, 0, 0, 1, 0]) (nd Tryd.f14 [1, 1, 1, 1, 0, 1, 0, 0, 1, 1, 0, 0, 1, 1]) (by kernel_rfl) ?_
      refine R_join (ι := Bool) (nd Tryd.f14 [1, 1, 1, 1, 0, 1, 0, 0, 1, 1, 0, 0, 1, 0, 0]) (nd Tryd.f14 [1, 1, 1, 1, 0, 1, 0, 0, 1, 1, 0, 0, 1, 0, 1]) (by kernel_rfl) (fun p => ring_Check_k3_S a1 x15 p) (fun p => ring_Check_k3 a1 x15 (ring_Check_L2 a1 n) p = some res) ?_ ?_
      · rintro x27 hm
        show H _ (ring_Check_k3_S a1 x15 x27) (nd Tryd.f14 [1, 1, 1, 1, 0, 1, 0, 0, 1, 1, 0, 0, 1, 0, 1]) _
        refine R_cond (.tmp 43) (nd Tryd.f14 [1, 1, 1, 1, 0, 1, 0, 0, 1, 1, 0, 0, 1, 0, 1, 0]) (nd Tryd.f14 [1, 1, 1, 1, 0, 1, 0, 0, 1, 1, 0, 0, 1, 0, 1, 1]) (by kernel_rfl) x27 (by kernel_rfl) (fun b28 => ?_) (fun b28 => ?_)
        · replace hm := bif_t b28 hm
          refine R_seq (nd Tryd.f14 [1, 1, 1, 1, 0, 1, 0, 0, 1, 1, 0, 0, 1, 0, 1, 0, 0]) (nd Tryd.f14 [1, 1, 1, 1, 0, 1, 0, 0, 1, 1, 0, 0, 1, 0, 1, 0, 1]) (by kernel_rfl) ?_
          refine R_region 11 (rg Tryd.f14 [1, 1, 1, 1, 0, 1, 0, 0, 1, 1, 0, 0, 1, 0, 1, 0, 0]) (by kernel_rfl) ?_
          have k29 : opsOk 54 (rg Tryd.f14 [1, 1, 1, 1, 0, 1, 0, 0, 1, 1, 0, 0, 1, 0, 1, 0, 0]) = true := by kernel_rfl
          refine P_op k29 (.v (.one (.val (.int .i64 9)))) (by kernel_rfl) ?_
          refine HOps_end (by kernel_rfl) ?_
          obtain rfl := Option.some.inj hm
          refine R_ret (by kernel_rfl) ?_
          refine L1_ret 9 ?_
          exact ret_mk (by kernel_rfl) (by kernel_rfl)
        · replace hm := bif_f b28 hm
          refine R_skip (by kernel_rfl) ?_
          refine R_join (ι := Bool) (nd Tryd.f14 [1, 1, 1, 1, 0, 1, 0, 0, 1, 1, 0, 0, 1, 1, 0]) (nd Tryd.f14 [1, 1, 1, 1, 0, 1, 0, 0, 1, 1, 0, 0, 1, 1, 1]) (by kernel_rfl) (fun p => ring_Check_k4_S a1 x15 p) (fun p => ring_Check_k4 x15 (ring_Check_L2 a1 n) p = some res) ?_ ?_
          · rintro x32 hm
            show H _ (ring_Check_k4_S a1 x15 x32) (nd Tryd.f14 [1, 1, 1, 1, 0, 1, 0, 0, 1, 1, 0, 0, 1, 1, 1]) _
            refine R_cond (.tmp 52) (nd Tryd.f14 [1, 1, 1, 1, 0, 1, 0, 0, 1, 1, 0, 0, 1, 1, 1, 0]) (nd Tryd.f14 [1, 1, 1, 1, 0, 1, 0, 0, 1, 1, 0, 0, 1, 1, 1, 1]) (by kernel_rfl) x32 (by kernel_rfl) (fun b33 => ?_) (fun b33 => ?_)
            · replace hm := bif_t b33 hm
              refine R_seq (nd Tryd.f14 [1, 1, 1, 1, 0, 1, 0, 0, 1, 1, 0, 0, 1, 1, 1, 0, 0]) (nd Tryd.f14 [1, 1, 1, 1, 0, 1, 0, 0, 1, 1, 0, 0, 1, 1, 1, 0, 1]) (by kernel_rfl) ?_
              refine R_region 13 (rg Tryd.f14 [1, 1, 1, 1, 0, 1, 0, 0, 1, 1, 0, 0, 1, 1, 1, 0, 0]) (by kernel_rfl) ?_
              have k34 : opsOk 54 (rg Tryd.f14 [1, 1, 1, 1, 0, 1, 0, 0, 1, 1, 0, 0, 1, 1, 1, 0, 0]) = true := by kernel_rfl
              refine P_op k34 (.v (.one (.val (.int .i64 19)))) (by kernel_rfl) ?_
              refine HOps_end (by kernel_rfl) ?_
              obtain rfl := Option.some.inj hm
              refine R_ret (by kernel_rfl) ?_
              refine L1_ret 19 ?_
              exact ret_mk (by kernel_rfl) (by kernel_rfl)
            · replace hm := bif_f b33 hm
              refine R_skip (by kernel_rfl) ?_
              refine R_region 14 (rg Tryd.f14 [1, 1, 1, 1, 0, 1, 0, 0, 1, 1, 1]) (by kernel_rfl) ?_
              have k35 : opsOk 54 (rg Tryd.f14 [1, 1, 1, 1, 0, 1, 0, 0, 1, 1, 1]) = true := by kernel_rfl
              refine P_op k35 (.v (.one (.val (.int .i64 (w64 (x15 + 1)))))) (by kernel_rfl) ?_
              refine P_op k35 (.v (.one (.val (.int .i64 (w64 (x15 + 1)))))) (by kernel_rfl) ?_
              refine HOps_end (by kernel_rfl) ?_
              exact HL_enter (ring_Check_L2_S a1 (w64 (x15 + 1))) (by kernel_rfl) (by kernel_rfl) (ih (w64 (x15 + 1)) _ hm)
          · refine R_region 12 (rg Tryd.f14 [1, 1, 1, 1, 0, 1, 0, 0, 1, 1, 0, 0, 1, 1, 0]) (by kernel_rfl) ?_
            have k30 : opsOk 54 (rg Tryd.f14 [1, 1, 1, 1, 0, 1, 0, 0, 1, 1, 0, 0, 1, 1, 0]) = true := by kernel_rfl
            refine P_op k30 (.v (.one (.bptr 2 0 2))) (by kernel_rfl) ?_
            refine P_op k30 (.v (.one (.val (.bool ((a1.Read.getD x15.toNat default).Ok))))) (by kernel_rfl) ?_
            refine P_op k30 (.v (.one (.val (.bool (!((a1.Read.getD x15.toNat default).Ok)))))) (by kernel_rfl) ?_
            refine P_op k30 (.v (.one (.val (.bool (!((a1.Read.getD x15.toNat default).Ok)))))) (by kernel_rfl) ?_
            refine HOps_bool 47 (!((a1.Read.getD x15.toNat default).Ok)) (by kernel_rfl) (fun b31 => ?_) (fun b31 => ?_)
            · replace hm := bif_t b31 hm
              refine P_op k30 (.v (.one (.bptr 2 0 0))) (by kernel_rfl) ?_
              refine P_op k30 (.v (.agg [.val (.int .i64 (((a1.Read.getD x15.toNat default).P).X)), .val (.int .i64 (((a1.Read.getD x15.toNat default).P).Y))])) (by kernel_rfl) ?_
              refine P_op k30 (.v (.agg [.val (.int .i64 0), .val (.int .i64 0)])) (by kernel_rfl) ?_
              refine P_op k30 (.v (.one (.val (.bool (!((((a1.Read.getD x15.toNat default).P).X == 0) && ((((a1.Read.getD x15.toNat default).P).Y == 0) && true))))))) (by kernel_rfl) ?_
              refine P_op k30 (.v (.one (.val (.bool (!((((a1.Read.getD x15.toNat default).P).X == 0) && ((((a1.Read.getD x15.toNat default).P).Y == 0) && true))))))) (by kernel_rfl) ?_
              refine HOps_end (by kernel_rfl) ?_
              exact J_mk (!((((a1.Read.getD x15.toNat default).P).X == 0) && ((((a1.Read.getD x15.toNat default).P).Y == 0) && true))) hm (by kernel_rfl) (by kernel_rfl)
            · replace hm := bif_f b31 hm
              refine P_skip k30 (by kernel_rfl) ?_
              refine P_skip k30 (by kernel_rfl) ?_
              refine P_skip k30 (by kernel_rfl) ?_
              refine P_skip k30 (by kernel_rfl) ?_
              refine P_op k30 (.v (.one (.val (.bool false)))) (by kernel_rfl) ?_
              refine HOps_end (by kernel_rfl) ?_
              exact J_mk (false) hm (by kernel_rfl) (by kernel_rfl)
      · refine R_region 10 (rg Tryd.f14 [1, 1, 1, 1, 0, 1, 0, 0, 1, 1, 0, 0, 1, 0, 0]) (by kernel_rfl) ?_
        have k20 : opsOk 54 (rg Tryd.f14 [1, 1, 1, 1, 0, 1, 0, 0, 1, 1, 0, 0, 1, 0, 0]) = true := by kernel_rfl
        refine P_op k20 (.v (.one (.bptr 2 0 2))) (by kernel_rfl) ?_
        refine P_op k20 (.v (.one (.val (.bool ((a1.Read.getD x15.toNat default).Ok))))) (by kernel_rfl) ?_
        refine P_op k20 (.v (.one (.val (.bool ((a1.Read.getD x15.toNat default).Ok))))) (by kernel_rfl) ?_
        refine HOps_bool 30 ((a1.Read.getD x15.toNat default).Ok) (by kernel_rfl) (fun b21 => ?_) (fun b21 => ?_)
        · replace hm := bif_t b21 hm
          refine P_op k20 (.v (.one (.bptr 2 0 0))) (by kernel_rfl) ?_
          refine P_op k20 (.v (.one (.bptr 2 0 0))) (by kernel_rfl) ?_
          refine P_op k20 (.v (.one (.val (.int .i64 (((a1.Read.getD x15.toNat default).P).X))))) (by kernel_rfl) ?_
          obtain ⟨v22, h23, hm⟩ := bind_s hm
          refine P_step k20 (obNv 3 (ring_within_o v22)) (obSh 3 (ring_within_o v22)) ((ring_within_x v22).sh 3) (by kernel_rfl) (Step_call (x := ring_within_x v22) (ob := ring_within_o v22) (f := 28) (args := [(.tmp 33)]) (fn := Tryd.f28) (ys := [.one (.val (.int .i64 (((a1.Read.getD x15.toNat default).P).X)))]) 3 (by kernel_rfl) (by kernel_rfl) (by kernel_rfl) (by kernel_rfl) (by kernel_rfl) (by kernel_rfl) rfl (ring_within_ok (((a1.Read.getD x15.toNat default).P).X) v22 h23) (by kernel_rfl) (by kernel_rfl)) ?_
          refine P_op k20 (.v (.one (.val (.bool (!v22))))) (by kernel_rfl) ?_
          refine P_op k20 (.v (.one (.val (.bool (!v22))))) (by kernel_rfl) ?_
          refine HOps_bool 36 (!v22) (by kernel_rfl) (fun b24 => ?_) (fun b24 => ?_)
          · replace hm := bif_t b24 hm
            refine P_skip k20 (by kernel_rfl) ?_
            refine P_skip k20 (by kernel_rfl) ?_
            refine P_skip k20 (by kernel_rfl) ?_
            refine P_skip k20 (by kernel_rfl) ?_
            refine P_skip k20 (by kernel_rfl) ?_
            refine P_op k20 (.v (.one (.val (.bool true)))) (by kernel_rfl) ?_
            refine P_op k20 (.v (.one (.val (.bool true)))) (by kernel_rfl) ?_
            refine HOps_end (by kernel_rfl) ?_
            exact J_mk (true) hm (by kernel_rfl) (by kernel_rfl)
          · replace hm := bif_f b24 hm
            refine P_op k20 (.v (.one (.bptr 2 0 0))) (by kernel_rfl) ?_
            refine P_op k20 (.v (.one (.bptr 2 0 1))) (by kernel_rfl) ?_
            refine P_op k20 (.v (.one (.val (.int .i64 (((a1.Read.getD x15.toNat default).P).Y))))) (by kernel_rfl) ?_
            obtain ⟨v25, h26, hm⟩ := bind_s hm
            refine P_step k20 (obNv 3 (ring_within_o v25)) (obSh 3 (ring_within_o v25)) ((ring_within_x v25).sh 3) (by kernel_rfl) (Step_call (x := ring_within_x v25) (ob := ring_within_o v25) (f := 28) (args := [(.tmp 39)]) (fn := Tryd.f28) (ys := [.one (.val (.int .i64 (((a1.Read.getD x15.toNat default).P).Y)))]) 3 (by kernel_rfl) (by kernel_rfl) (by kernel_rfl) (by kernel_rfl) (by kernel_rfl) (by kernel_rfl) rfl (ring_within_ok (((a1.Read.getD x15.toNat default).P).Y) v25 h26) (by kernel_rfl) (by kernel_rfl)) ?_
            refine P_op k20 (.v (.one (.val (.bool (!v25))))) (by kernel_rfl) ?_
            refine P_op k20 (.v (.one (.val (.bool (!v25))))) (by kernel_rfl) ?_
            refine P_op k20 (.v (.one (.val (.bool (!v25))))) (by kernel_rfl) ?_
            refine HOps_end (by kernel_rfl) ?_
            exact J_mk (!v25) hm (by kernel_rfl) (by kernel_rfl)
        · replace hm := bif_f b21 hm
          refine P_skip k20 (by kernel_rfl) ?_
          refine P_skip k20 (by kernel_rfl) ?_
          refine P_skip k20 (by kernel_rfl) ?_
          refine P_skip k20 (by kernel_rfl) ?_
          refine P_skip k20 (by kernel_rfl) ?_
          refine P_skip k20 (by kernel_rfl) ?_
          refine P_skip k20 (by kernel_rfl) ?_
          refine P_skip k20 (by kernel_rfl) ?_
          refine P_skip k20 (by kernel_rfl) ?_
          refine P_skip k20 (by kernel_rfl) ?_
          refine P_skip k20 (by kernel_rfl) ?_
          refine P_skip k20 (by kernel_rfl) ?_
          refine P_op k20 (.v (.one (.val (.bool false)))) (by kernel_rfl) ?_
          refine HOps_end (by kernel_rfl) ?_
          exact J_mk (false) hm (by kernel_rfl) (by kernel_rfl)
    · replace hm := bif_f b17 hm
      refine R_exit 0 (by kernel_rfl) ?_
      obtain rfl := Option.some.inj hm
      exact L1_mk () (by kernel_rfl) (by kernel_rfl)

set_option maxRecDepth 100000 in
theorem ring_Check_ok (a1 : Ring) (r : Int) (hm : ring_Check a1 = some r) : Ct Tryd.prog globs 14 [.agg [.val (.int .i64 a1.Z), tl e_Reading default a1.Read]] (ring_Check_x r) (ring_Check_o r) := by
  unfold ring_Check at hm
  refine Ct_of_H (fn := Tryd.f14) (c := nd Tryd.f14 []) mixed (by kernel_rfl) (by kernel_rfl) (by kernel_rfl) fun w A hg => ?_
  show H ({ P := Tryd.prog, w0 := w, nt := 54, A := A, globs := globs, mixed := mixed, glob := hg } : Ctx) _ _ _
  refine R_seq (nd Tryd.f14 [0]) (nd Tryd.f14 [1]) (by kernel_rfl) ?_
  refine R_region 0 (rg Tryd.f14 [0]) (by kernel_rfl) ?_
  have k2 : opsOk 54 (rg Tryd.f14 [0]) = true := by kernel_rfl
  refine P_step k2 ([(1, 0)]) ([(1, (0, .box 24 [.val (.int .i64 a1.Z), tl e_Reading default a1.Read]))]) (.v (.one (.bptr 1 0 0))) (by kernel_rfl) (Step_box 24 (.tmp 0) 1 0 (.agg [.val (.int .i64 a1.Z), tl e_Reading default a1.Read]) (by kernel_rfl) (by kernel_rfl) (by kernel_rfl)) ?_
  refine P_op k2 (.v (.one (.val (.int .i64 0)))) (by kernel_rfl) ?_
  refine HOps_end (by kernel_rfl) ?_
  refine R_seq (nd Tryd.f14 [1, 0]) (nd Tryd.f14 [1, 1]) (by kernel_rfl) ?_
  refine R_seq (nd Tryd.f14 [1, 0, 0]) (nd Tryd.f14 [1, 0, 1]) (by kernel_rfl) ?_
  refine R_region 1 (rg Tryd.f14 [1, 0, 0]) (by kernel_rfl) ?_
  have k3 : opsOk 54 (rg Tryd.f14 [1, 0, 0]) = true := by kernel_rfl
  refine P_op k3 (.v (.one (.bptr 1 0 1))) (by kernel_rfl) ?_
  refine P_op k3 (.v (.one (tl e_Reading default a1.Read))) (by kernel_rfl) ?_
  refine P_op k3 (.v (.one (.val (.int .i64 ((a1.Read.length : Nat) : Int))))) (by kernel_rfl) ?_
  refine P_op k3 (.v (.one (.val (.bool (decide (((a1.Read.length : Nat) : Int) < 8)))))) (by kernel_rfl) ?_
  refine HOps_end (by kernel_rfl) ?_
  refine R_cond (.tmp 8) (nd Tryd.f14 [1, 0, 1, 0]) (nd Tryd.f14 [1, 0, 1, 1]) (by kernel_rfl) (decide (((a1.Read.length : Nat) : Int) < 8)) (by kernel_rfl) (fun b4 => ?_) (fun b4 => ?_)
  · replace hm := bif_t b4 hm
    refine R_seq (nd Tryd.f14 [1, 0, 1, 0, 0]) (nd Tryd.f14 [1, 0, 1, 0, 1]) (by kernel_rfl) ?_
    refine R_region 2 (rg Tryd.f14 [1, 0, 1, 0, 0]) (by kernel_rfl) ?_
    have k5 : opsOk 54 (rg Tryd.f14 [1, 0, 1, 0, 0]) = true := by kernel_rfl
    refine P_op k5 (.v (.one (.val (.int .i64 3)))) (by kernel_rfl) ?_
    refine HOps_end (by kernel_rfl) ?_
    obtain rfl := Option.some.inj hm
    refine R_ret (by kernel_rfl) ?_
    exact ret_mk (by kernel_rfl) (by kernel_rfl)
  · replace hm := bif_f b4 hm
    refine R_skip (by kernel_rfl) ?_
    refine R_seq (nd Tryd.f14 [1, 1, 0]) (nd Tryd.f14 [1, 1, 1]) (by kernel_rfl) ?_
    refine R_seq (nd Tryd.f14 [1, 1, 0, 0]) (nd Tryd.f14 [1, 1, 0, 1]) (by kernel_rfl) ?_
    refine R_region 3 (rg Tryd.f14 [1, 1, 0, 0]) (by kernel_rfl) ?_
    have k6 : opsOk 54 (rg Tryd.f14 [1, 1, 0, 0]) = true := by kernel_rfl
    refine P_op k6 (.v (.one (.bptr 1 0 1))) (by kernel_rfl) ?_
    refine P_op k6 (.v (.one (tl e_Reading default a1.Read))) (by kernel_rfl) ?_
    refine P_op k6 (.v (.one (.val (.int .i64 ((a1.Read.length : Nat) : Int))))) (by kernel_rfl) ?_
    refine P_op k6 (.v (.one (.val (.bool (decide (((a1.Read.length : Nat) : Int) > 32)))))) (by kernel_rfl) ?_
    refine HOps_end (by kernel_rfl) ?_
    refine R_cond (.tmp 12) (nd Tryd.f14 [1, 1, 0, 1, 0]) (nd Tryd.f14 [1, 1, 0, 1, 1]) (by kernel_rfl) (decide (((a1.Read.length : Nat) : Int) > 32)) (by kernel_rfl) (fun b7 => ?_) (fun b7 => ?_)
    · replace hm := bif_t b7 hm
      refine R_seq (nd Tryd.f14 [1, 1, 0, 1, 0, 0]) (nd Tryd.f14 [1, 1, 0, 1, 0, 1]) (by kernel_rfl) ?_
      refine R_region 4 (rg Tryd.f14 [1, 1, 0, 1, 0, 0]) (by kernel_rfl) ?_
      have k8 : opsOk 54 (rg Tryd.f14 [1, 1, 0, 1, 0, 0]) = true := by kernel_rfl
      refine P_op k8 (.v (.one (.val (.int .i64 4)))) (by kernel_rfl) ?_
      refine HOps_end (by kernel_rfl) ?_
      obtain rfl := Option.some.inj hm
      refine R_ret (by kernel_rfl) ?_
      exact ret_mk (by kernel_rfl) (by kernel_rfl)
    · replace hm := bif_f b7 hm
      refine R_skip (by kernel_rfl) ?_
      refine R_seq (nd Tryd.f14 [1, 1, 1, 0]) (nd Tryd.f14 [1, 1, 1, 1]) (by kernel_rfl) ?_
      refine R_join (ι := Bool) (nd Tryd.f14 [1, 1, 1, 0, 0]) (nd Tryd.f14 [1, 1, 1, 0, 1]) (by kernel_rfl) (fun p => ring_Check_k1_S a1 p) (fun p => ring_Check_k1 a1 p = some r) ?_ ?_
      · rintro x11 hm
        show H _ (ring_Check_k1_S a1 x11) (nd Tryd.f14 [1, 1, 1, 0, 1]) _
        refine R_cond (.tmp 20) (nd Tryd.f14 [1, 1, 1, 0, 1, 0]) (nd Tryd.f14 [1, 1, 1, 0, 1, 1]) (by kernel_rfl) x11 (by kernel_rfl) (fun b12 => ?_) (fun b12 => ?_)
        · replace hm := bif_t b12 hm
          refine R_seq (nd Tryd.f14 [1, 1, 1, 0, 1, 0, 0]) (nd Tryd.f14 [1, 1, 1, 0, 1, 0, 1]) (by kernel_rfl) ?_
          refine R_region 6 (rg Tryd.f14 [1, 1, 1, 0, 1, 0, 0]) (by kernel_rfl) ?_
          have k13 : opsOk 54 (rg Tryd.f14 [1, 1, 1, 0, 1, 0, 0]) = true := by kernel_rfl
          refine P_op k13 (.v (.one (.val (.int .i64 9)))) (by kernel_rfl) ?_
          refine HOps_end (by kernel_rfl) ?_
          obtain rfl := Option.some.inj hm
          refine R_ret (by kernel_rfl) ?_
          exact ret_mk (by kernel_rfl) (by kernel_rfl)
        · replace hm := bif_f b12 hm
          refine R_skip (by kernel_rfl) ?_
          refine R_seq (nd Tryd.f14 [1, 1, 1, 1, 0]) (nd Tryd.f14 [1, 1, 1, 1, 1]) (by kernel_rfl) ?_
          refine R_seq (nd Tryd.f14 [1, 1, 1, 1, 0, 0]) (nd Tryd.f14 [1, 1, 1, 1, 0, 1]) (by kernel_rfl) ?_
          refine R_region 7 (rg Tryd.f14 [1, 1, 1, 1, 0, 0]) (by kernel_rfl) ?_
          have k14 : opsOk 54 (rg Tryd.f14 [1, 1, 1, 1, 0, 0]) = true := by kernel_rfl
          refine P_op k14 (.v (.one (.bptr 1 0 1))) (by kernel_rfl) ?_
          refine P_op k14 (.v (.one (tl e_Reading default a1.Read))) (by kernel_rfl) ?_
          refine P_op k14 (.v (.one (.val (.int .i64 ((a1.Read.length : Nat) : Int))))) (by kernel_rfl) ?_
          refine P_op k14 (.v (.one (.val (.int .i64 0)))) (by kernel_rfl) ?_
          refine HOps_end (by kernel_rfl) ?_
          obtain ⟨u38, h37, hm⟩ := bind_s hm
          refine R_loop1 (nd Tryd.f14 [1, 1, 1, 1, 0, 1, 0, 0]) 0 (by kernel_rfl) FUEL (fun o => ring_Check_L2_T) (fun v st => RetQ Tryd.prog Tryd.f14 (ring_Check_x v) (ring_Check_o v) .ret st) u38 (HL_enter (ring_Check_L2_S a1 0) (by kernel_rfl) (by kernel_rfl) (ring_Check_L2_ok w A hg a1 FUEL 0 u38 h37)) ?_ ?_
          · rintro v39 rfl st hr
            obtain rfl := Option.some.inj hm
            exact hr
          · rintro o36 rfl
            replace hm : _ = some r := hm
            refine R_seq (nd Tryd.f14 [1, 1, 1, 1, 1, 0]) (nd Tryd.f14 [1, 1, 1, 1, 1, 1]) (by kernel_rfl) ?_
            refine R_region 15 (rg Tryd.f14 [1, 1, 1, 1, 1, 0]) (by kernel_rfl) ?_
            have k40 : opsOk 54 (rg Tryd.f14 [1, 1, 1, 1, 1, 0]) = true := by kernel_rfl
            refine P_op k40 (.v (.one (.val (.int .i64 0)))) (by kernel_rfl) ?_
            refine HOps_end (by kernel_rfl) ?_
            obtain rfl := Option.some.inj hm
            refine R_ret (by kernel_rfl) ?_
            exact ret_mk (by kernel_rfl) (by kernel_rfl)
      · refine R_region 5 (rg Tryd.f14 [1, 1, 1, 0, 0]) (by kernel_rfl) ?_
        have k9 : opsOk 54 (rg Tryd.f14 [1, 1, 1, 0, 0]) = true := by kernel_rfl
        refine P_op k9 (.v (.one (.bptr 1 0 0))) (by kernel_rfl) ?_
        refine P_op k9 (.v (.one (.val (.int .i64 a1.Z)))) (by kernel_rfl) ?_
        refine P_op k9 (.v (.one (.val (.bool (decide (a1.Z < 0)))))) (by kernel_rfl) ?_
        refine P_op k9 (.v (.one (.val (.bool (decide (a1.Z < 0)))))) (by kernel_rfl) ?_
        refine HOps_bool 16 (decide (a1.Z < 0)) (by kernel_rfl) (fun b10 => ?_) (fun b10 => ?_)
        · replace hm := bif_t b10 hm
          refine P_skip k9 (by kernel_rfl) ?_
          refine P_skip k9 (by kernel_rfl) ?_
          refine P_skip k9 (by kernel_rfl) ?_
          refine P_op k9 (.v (.one (.val (.bool true)))) (by kernel_rfl) ?_
          refine HOps_end (by kernel_rfl) ?_
          exact J_mk (true) hm (by kernel_rfl) (by kernel_rfl)
        · replace hm := bif_f b10 hm
          refine P_op k9 (.v (.one (.bptr 1 0 0))) (by kernel_rfl) ?_
          refine P_op k9 (.v (.one (.val (.int .i64 a1.Z)))) (by kernel_rfl) ?_
          refine P_op k9 (.v (.one (.val (.bool (decide (a1.Z > 20000)))))) (by kernel_rfl) ?_
          refine P_op k9 (.v (.one (.val (.bool (decide (a1.Z > 20000)))))) (by kernel_rfl) ?_
          refine HOps_end (by kernel_rfl) ?_
          exact J_mk (decide (a1.Z > 20000)) hm (by kernel_rfl) (by kernel_rfl)

end Saw
end Go.SL

namespace Go.SL
namespace Saw
open Go.Proofs
set_option maxHeartbeats 4000000

def ring_measured_x (r : (List Int)) : V := .v (.one (.own 0 0 1 r.length))

def ring_measured_o (r : (List Int)) : List (Nat × (Nat × O)) := [(0, (0, .row 3 1 r.length (rowf e_i64 default r)))]

theorem ring_measured_f (r : (List Int)) : Frozen (ring_measured_o r) := by
  intro i k o h
  unfold ring_measured_o at h
  rw [look_cons] at h
  split at h
  · cases h; exact fun _ _ => rfl
  · cases h

def ring_measured_k2_S (a1 : Ring) (x6 : Int) (l15 : List Int) (l15n : Nat) : St :=
  { slots := [(3, .v (.one (.own 1001 0 1 l15n))), (7, .v (.one (tl e_Reading default a1.Read))), (8, .v (.one (.val (.int .i64 ((a1.Read.length : Nat) : Int))))), (9, .v (.one (.val (.int .i64 x6))))], objs := [(1001, (0, .row 3 1 l15n (rowf e_i64 default l15)))] }

def ring_measured_L1_S (a1 : Ring) (l5 : List Int) (l5n : Nat) (x6 : Int) : St :=
  { slots := [(3, .v (.one (.own 1001 0 1 l5n))), (7, .v (.one (tl e_Reading default a1.Read))), (8, .v (.one (.val (.int .i64 ((a1.Read.length : Nat) : Int))))), (9, .v (.one (.val (.int .i64 x6))))], objs := [(1001, (0, .row 3 1 l5n (rowf e_i64 default l5)))] }

def ring_measured_L1_T (l17 : List Int) : St :=
  { slots := [(3, .v (.one (.own 1001 0 1 l17.length)))], objs := [(1001, (0, .row 3 1 l17.length (rowf e_i64 default l17)))] }

set_option maxRecDepth 100000 in
theorem ring_measured_L1_ok (w : World) (A : Nat → Prop) (hg : Globs globs w A) (a1 : Ring) : ∀ (n : Nat) (l5 : List Int) (l5n : Nat) (x6 : Int) (res : (List Int)), l5.length = l5n → ring_measured_L1 a1 n l5 x6 = some res → HL ({ P := Tryd.prog, w0 := w, nt := 22, A := A, globs := globs, mixed := mixed, glob := hg } : Ctx) (nd Tryd.f26 [1, 1, 0, 1, 0, 0]) (loopQ0 0 (fun o => ring_measured_L1_T o) res) n (ring_measured_L1_S a1 l5 l5n x6) := by
  intro n
  induction n with
  | zero =>
    intro l5 l5n x6 res hl0 hm
    cases hm
  | succ n ih =>
    intro l5 l5n x6 res hl0 hm
    subst hl0
    refine HL_succ ?_
    refine R_seq (nd Tryd.f26 [1, 1, 0, 1, 0, 0, 0]) (nd Tryd.f26 [1, 1, 0, 1, 0, 0, 1]) (by kernel_rfl) ?_
    refine R_region 3 (rg Tryd.f26 [1, 1, 0, 1, 0, 0, 0]) (by kernel_rfl) ?_
    have k7 : opsOk 22 (rg Tryd.f26 [1, 1, 0, 1, 0, 0, 0]) = true := by kernel_rfl
    refine P_op k7 (.v (.one (.val (.bool (decide (x6 < ((a1.Read.length : Nat) : Int))))))) (by kernel_rfl) ?_
    refine HOps_end (by kernel_rfl) ?_
    refine R_seq (nd Tryd.f26 [1, 1, 0, 1, 0, 0, 1, 0]) (nd Tryd.f26 [1, 1, 0, 1, 0, 0, 1, 1]) (by kernel_rfl) ?_
    refine R_cond (.tmp 10) (nd Tryd.f26 [1, 1, 0, 1, 0, 0, 1, 0, 0]) (nd Tryd.f26 [1, 1, 0, 1, 0, 0, 1, 0, 1]) (by kernel_rfl) (decide (x6 < ((a1.Read.length : Nat) : Int))) (by kernel_rfl) (fun b8 => ?_) (fun b8 => ?_)
    · replace hm := bif_t b8 hm
      refine R_skip (by kernel_rfl) ?_
      refine R_join (ι := (List Int) × Nat) (nd Tryd.f26 [1, 1, 0, 1, 0, 0, 1, 1, 0]) (nd Tryd.f26 [1, 1, 0, 1, 0, 0, 1, 1, 1]) (by kernel_rfl) (fun p => ring_measured_k2_S a1 x6 p.1 p.2) (fun p => p.1.length = p.2 ∧ ring_measured_k2 x6 (ring_measured_L1 a1 n) p.1 = some res) ?_ ?_
      · rintro ⟨l15, l15n⟩ ⟨el15, hm⟩
        replace el15 : l15.length = l15n := el15
        subst el15
        show H _ (ring_measured_k2_S a1 x6 l15 l15.length) (nd Tryd.f26 [1, 1, 0, 1, 0, 0, 1, 1, 1]) _
        refine R_region 7 (rg Tryd.f26 [1, 1, 0, 1, 0, 0, 1, 1, 1]) (by kernel_rfl) ?_
        have k16 : opsOk 22 (rg Tryd.f26 [1, 1, 0, 1, 0, 0, 1, 1, 1]) = true := by kernel_rfl
        refine P_op k16 (.v (.one (.val (.int .i64 (w64 (x6 + 1)))))) (by kernel_rfl) ?_
        refine P_op k16 (.v (.one (.val (.int .i64 (w64 (x6 + 1)))))) (by kernel_rfl) ?_
        refine HOps_end (by kernel_rfl) ?_
        exact HL_enter (ring_measured_L1_S a1 l15 l15.length (w64 (x6 + 1))) (by kernel_rfl) (by kernel_rfl) (ih l15 l15.length (w64 (x6 + 1)) _ rfl hm)
      · refine R_block 1 (nd Tryd.f26 [1, 1, 0, 1, 0, 0, 1, 1, 0, 0]) (by kernel_rfl) ?_
        refine R_seq (nd Tryd.f26 [1, 1, 0, 1, 0, 0, 1, 1, 0, 0, 0]) (nd Tryd.f26 [1, 1, 0, 1, 0, 0, 1, 1, 0, 0, 1]) (by kernel_rfl) ?_
        refine R_region 4 (rg Tryd.f26 [1, 1, 0, 1, 0, 0, 1, 1, 0, 0, 0]) (by kernel_rfl) ?_
        have k9 : opsOk 22 (rg Tryd.f26 [1, 1, 0, 1, 0, 0, 1, 1, 0, 0, 0]) = true := by kernel_rfl
        refine P_op k9 (.v (.one (.val (.int .i64 x6)))) (by kernel_rfl) ?_
        obtain ⟨g10, hm⟩ := bif_n hm
        refine P_opc k9 (.v (.one (.lptr (e_Reading (a1.Read.getD x6.toNat default))))) (0 ≤ x6 ∧ x6 < ((a1.Read.length : Nat) : Int)) (by kernel_rfl) (inb_of g10) ?_
        refine P_op k9 (.v (.agg [.val (.int .i64 (((a1.Read.getD x6.toNat default).P).X)), .val (.int .i64 (((a1.Read.getD x6.toNat default).P).Y)), .val (.bool ((a1.Read.getD x6.toNat default).Ok))])) (by kernel_rfl) ?_
        refine P_step k9 ([(2, 0)]) ([(2, (0, .box 44 [.val (.int .i64 0), .val (.int .i64 0), .val (.bool false)]))]) (.v (.one (.bptr 2 0 0))) (by kernel_rfl) (Step_alloc 44 2 0 [.val (.int .i64 0), .val (.int .i64 0), .val (.bool false)] (by kernel_rfl) (by kernel_rfl) (by kernel_rfl)) ?_
        refine P_op k9 (.v (.one (.val (.int .i64 x6)))) (by kernel_rfl) ?_
        refine P_write k9 ([(2, (0, .box 44 [.val (.int .i64 (((a1.Read.getD x6.toNat default).P).X)), .val (.int .i64 (((a1.Read.getD x6.toNat default).P).Y)), .val (.bool ((a1.Read.getD x6.toNat default).Ok))]))]) (.undef) (by kernel_rfl) (Step_store_box 44 (.tmp 5) (.tmp 13) 2 0 0 44 [.val (.int .i64 0), .val (.int .i64 0), .val (.bool false)] (.agg [.val (.int .i64 (((a1.Read.getD x6.toNat default).P).X)), .val (.int .i64 (((a1.Read.getD x6.toNat default).P).Y)), .val (.bool ((a1.Read.getD x6.toNat default).Ok))]) [.val (.int .i64 (((a1.Read.getD x6.toNat default).P).X)), .val (.int .i64 (((a1.Read.getD x6.toNat default).P).Y)), .val (.bool ((a1.Read.getD x6.toNat default).Ok))] (by kernel_rfl) (by kernel_rfl) (by kernel_rfl) (by kernel_rfl) (by kernel_rfl) (by kernel_rfl) (by kernel_rfl) (by kernel_rfl)) ?_
        refine HOps_end (by kernel_rfl) ?_
        refine R_seq (nd Tryd.f26 [1, 1, 0, 1, 0, 0, 1, 1, 0, 0, 1, 0]) (nd Tryd.f26 [1, 1, 0, 1, 0, 0, 1, 1, 0, 0, 1, 1]) (by kernel_rfl) ?_
        refine R_region 5 (rg Tryd.f26 [1, 1, 0, 1, 0, 0, 1, 1, 0, 0, 1, 0]) (by kernel_rfl) ?_
        have k11 : opsOk 22 (rg Tryd.f26 [1, 1, 0, 1, 0, 0, 1, 1, 0, 0, 1, 0]) = true := by kernel_rfl
        refine P_op k11 (.v (.one (.bptr 2 0 2))) (by kernel_rfl) ?_
        refine P_op k11 (.v (.one (.val (.bool ((a1.Read.getD x6.toNat default).Ok))))) (by kernel_rfl) ?_
        refine HOps_end (by kernel_rfl) ?_
        refine R_cond (.tmp 15) (nd Tryd.f26 [1, 1, 0, 1, 0, 0, 1, 1, 0, 0, 1, 1, 0]) (nd Tryd.f26 [1, 1, 0, 1, 0, 0, 1, 1, 0, 0, 1, 1, 1]) (by kernel_rfl) ((a1.Read.getD x6.toNat default).Ok) (by kernel_rfl) (fun b12 => ?_) (fun b12 => ?_)
        · replace hm := bif_t b12 hm
          refine R_region 6 (rg Tryd.f26 [1, 1, 0, 1, 0, 0, 1, 1, 0, 0, 1, 1, 0]) (by kernel_rfl) ?_
          have k13 : opsOk 22 (rg Tryd.f26 [1, 1, 0, 1, 0, 0, 1, 1, 0, 0, 1, 1, 0]) = true := by kernel_rfl
          refine P_op k13 (.v (.one (.own 1001 0 1 l5.length))) (by kernel_rfl) ?_
          refine P_op k13 (.v (.one (.val (.int .i64 x6)))) (by kernel_rfl) ?_
          refine P_step k13 ([(3, 0)]) ([(3, (0, .row 3 1 1 (rowf e_i64 default ([x6] : List Int))))]) (.v (.one (.own 3 0 1 1))) (by kernel_rfl) (Step_lit 48 3 1 #[(0, (.tmp 17))] 3 0 Tryd.t3 [.val (.int .i64 0)] [(0, .one (.val (.int .i64 x6)))] [.val (.int .i64 x6)] (by kernel_rfl) (by kernel_rfl) (by kernel_rfl) (by kernel_rfl) (by kernel_rfl) (by kernel_rfl) (by kernel_rfl) (by kernel_rfl) (by kernel_rfl) (by kernel_rfl) (by kernel_rfl) (rowf e_i64 default ([x6] : List Int)) (lit_succ (n := 0) lit_zero (by kernel_rfl))) ?_
          obtain ⟨g14, hm⟩ := bif_n hm
          refine P_step k13 ([(1001, 1)]) ([(1001, (1, .row 3 1 (l5.length + 1) (rowf e_i64 default (l5 ++ ([x6] : List Int)))))]) (.v (.one (.own 1001 1 1 (l5.length + 1)))) (by kernel_rfl) (Step_append (.tmp 16) (.tmp 18) 48 3 1001 0 1 l5.length l5.length 1 Tryd.t3 (.int .i64 0) (rowf e_i64 default l5) (rowf e_i64 default ([x6] : List Int)) (rowf e_i64 default (l5 ++ ([x6] : List Int))) (.one (.own 3 0 1 1)) (1 ≤ 1) (by kernel_rfl) (by kernel_rfl) (by kernel_rfl) (by kernel_rfl) (by kernel_rfl) (by kernel_rfl) (by kernel_rfl) (by kernel_rfl) (by kernel_rfl) (by kernel_rfl) (by kernel_rfl) (Nat.le_refl _) (fun _ _ => by kernel_rfl) (Nat.le_refl _) (room_of g14) (rowf_app e_i64 default l5 ([x6] : List Int) l5.length 1 rfl rfl)) ?_
          refine P_op k13 (.v (.one (.own 1001 1 1 (l5.length + 1)))) (by kernel_rfl) ?_
          refine HOps_end (by kernel_rfl) ?_
          exact J_mk ((l5 ++ ([x6] : List Int)), (l5.length + 1)) ⟨(len_app rfl rfl), hm⟩ (by kernel_rfl) (by kernel_rfl)
        · replace hm := bif_f b12 hm
          refine R_skip (by kernel_rfl) ?_
          exact J_mk (l5, l5.length) ⟨rfl, hm⟩ (by kernel_rfl) (by kernel_rfl)
    · replace hm := bif_f b8 hm
      refine R_exit 0 (by kernel_rfl) ?_
      obtain rfl := Option.some.inj hm
      exact L0_mk (by kernel_rfl) (by kernel_rfl)

set_option maxRecDepth 100000 in
theorem ring_measured_ok (a1 : Ring) (r : (List Int)) (hm : ring_measured a1 = some r) : Ct Tryd.prog globs 26 [.agg [.val (.int .i64 a1.Z), tl e_Reading default a1.Read]] (ring_measured_x r) (ring_measured_o r) := by
  unfold ring_measured at hm
  refine Ct_of_H (fn := Tryd.f26) (c := nd Tryd.f26 []) mixed (by kernel_rfl) (by kernel_rfl) (by kernel_rfl) fun w A hg => ?_
  show H ({ P := Tryd.prog, w0 := w, nt := 22, A := A, globs := globs, mixed := mixed, glob := hg } : Ctx) _ _ _
  refine R_seq (nd Tryd.f26 [0]) (nd Tryd.f26 [1]) (by kernel_rfl) ?_
  refine R_region 0 (rg Tryd.f26 [0]) (by kernel_rfl) ?_
  have k2 : opsOk 22 (rg Tryd.f26 [0]) = true := by kernel_rfl
  refine P_step k2 ([(1, 0)]) ([(1, (0, .box 24 [.val (.int .i64 a1.Z), tl e_Reading default a1.Read]))]) (.v (.one (.bptr 1 0 0))) (by kernel_rfl) (Step_box 24 (.tmp 0) 1 0 (.agg [.val (.int .i64 a1.Z), tl e_Reading default a1.Read]) (by kernel_rfl) (by kernel_rfl) (by kernel_rfl)) ?_
  refine P_op k2 (.v (.one (.emp))) (by kernel_rfl) ?_
  refine HOps_end (by kernel_rfl) ?_
  refine R_seq (nd Tryd.f26 [1, 0]) (nd Tryd.f26 [1, 1]) (by kernel_rfl) ?_
  refine R_region 1 (rg Tryd.f26 [1, 0]) (by kernel_rfl) ?_
  have k3 : opsOk 22 (rg Tryd.f26 [1, 0]) = true := by kernel_rfl
  refine P_op k3 (.v (.one (.emp))) (by kernel_rfl) ?_
  refine HOps_end (by kernel_rfl) ?_
  refine R_seq (nd Tryd.f26 [1, 1, 0]) (nd Tryd.f26 [1, 1, 1]) (by kernel_rfl) ?_
  refine R_seq (nd Tryd.f26 [1, 1, 0, 0]) (nd Tryd.f26 [1, 1, 0, 1]) (by kernel_rfl) ?_
  refine R_region 2 (rg Tryd.f26 [1, 1, 0, 0]) (by kernel_rfl) ?_
  have k4 : opsOk 22 (rg Tryd.f26 [1, 1, 0, 0]) = true := by kernel_rfl
  refine P_op k4 (.v (.one (.bptr 1 0 1))) (by kernel_rfl) ?_
  refine P_op k4 (.v (.one (tl e_Reading default a1.Read))) (by kernel_rfl) ?_
  refine P_op k4 (.v (.one (.val (.int .i64 ((a1.Read.length : Nat) : Int))))) (by kernel_rfl) ?_
  refine P_op k4 (.v (.one (.val (.int .i64 0)))) (by kernel_rfl) ?_
  refine HOps_own 3 1001 3 1 (rowf e_i64 default ([] : List Int)) (by kernel_rfl) ?_
  refine HOps_end (by kernel_rfl) ?_
  obtain ⟨o18, h19, hm⟩ := bind_s hm
  refine R_loop0 (nd Tryd.f26 [1, 1, 0, 1, 0, 0]) 0 (by kernel_rfl) FUEL (fun o => ring_measured_L1_T o) o18 (HL_enter (ring_measured_L1_S a1 ([] : List Int) 0 0) (by kernel_rfl) (by kernel_rfl) (ring_measured_L1_ok w A hg a1 FUEL ([] : List Int) 0 0 o18 rfl h19)) ?_
  refine R_seq (nd Tryd.f26 [1, 1, 1, 0]) (nd Tryd.f26 [1, 1, 1, 1]) (by kernel_rfl) ?_
  refine R_region 8 (rg Tryd.f26 [1, 1, 1, 0]) (by kernel_rfl) ?_
  have k20 : opsOk 22 (rg Tryd.f26 [1, 1, 1, 0]) = true := by kernel_rfl
  refine P_op k20 (.v (.one (.own 1001 0 1 o18.length))) (by kernel_rfl) ?_
  refine P_op k20 (.v (.one (.own 1001 0 1 o18.length))) (by kernel_rfl) ?_
  refine HOps_end (by kernel_rfl) ?_
  obtain rfl := Option.some.inj hm
  refine H_swap 1001 0 ?_
  refine R_ret (by kernel_rfl) ?_
  exact ret_mk (by kernel_rfl) (by kernel_rfl)

end Saw
end Go.SL

namespace Go.SL
namespace Saw
open Go.Proofs
set_option maxHeartbeats 4000000

def ring_behind_x (r : Int) : V := .v (.one (.val (.int .i64 r)))

def ring_behind_o (r : Int) : List (Nat × (Nat × O)) := []

theorem ring_behind_f (r : Int) : Frozen (ring_behind_o r) := by
  intro i k o h
  unfold ring_behind_o at h
  cases h

set_option maxRecDepth 100000 in
theorem ring_behind_ok (a1 : Ring) (a2 : List Int) (a3 : Int) (r : Int) (hm : ring_behind a1 a2 a3 = some r) : Ct Tryd.prog globs 27 [.agg [.val (.int .i64 a1.Z), tl e_Reading default a1.Read], .one (tl e_i64 default a2), .one (.val (.int .i64 a3))] (ring_behind_x r) (ring_behind_o r) := by
  unfold ring_behind at hm
  refine Ct_of_H (fn := Tryd.f27) (c := nd Tryd.f27 []) mixed (by kernel_rfl) (by kernel_rfl) (by kernel_rfl) fun w A hg => ?_
  show H ({ P := Tryd.prog, w0 := w, nt := 36, A := A, globs := globs, mixed := mixed, glob := hg } : Ctx) _ _ _
  refine R_seq (nd Tryd.f27 [0]) (nd Tryd.f27 [1]) (by kernel_rfl) ?_
  refine R_region 0 (rg Tryd.f27 [0]) (by kernel_rfl) ?_
  have k4 : opsOk 36 (rg Tryd.f27 [0]) = true := by kernel_rfl
  refine P_step k4 ([(1, 0)]) ([(1, (0, .box 24 [.val (.int .i64 a1.Z), tl e_Reading default a1.Read]))]) (.v (.one (.bptr 1 0 0))) (by kernel_rfl) (Step_box 24 (.tmp 0) 1 0 (.agg [.val (.int .i64 a1.Z), tl e_Reading default a1.Read]) (by kernel_rfl) (by kernel_rfl) (by kernel_rfl)) ?_
  refine P_op k4 (.v (.one (.val (.int .i64 0)))) (by kernel_rfl) ?_
  refine HOps_end (by kernel_rfl) ?_
  refine R_seq (nd Tryd.f27 [1, 0]) (nd Tryd.f27 [1, 1]) (by kernel_rfl) ?_
  refine R_seq (nd Tryd.f27 [1, 0, 0]) (nd Tryd.f27 [1, 0, 1]) (by kernel_rfl) ?_
  refine R_region 1 (rg Tryd.f27 [1, 0, 0]) (by kernel_rfl) ?_
  have k5 : opsOk 36 (rg Tryd.f27 [1, 0, 0]) = true := by kernel_rfl
  refine P_op k5 (.v (.one (.val (.int .i64 a3)))) (by kernel_rfl) ?_
  refine P_op k5 (.v (.one (.val (.int .i64 (w64 (a3 + 1)))))) (by kernel_rfl) ?_
  refine P_op k5 (.v (.one (tl e_i64 default a2))) (by kernel_rfl) ?_
  refine P_op k5 (.v (.one (.val (.int .i64 ((a2.length : Nat) : Int))))) (by kernel_rfl) ?_
  refine P_op k5 (.v (.one (.val (.bool (decide ((w64 (a3 + 1)) < ((a2.length : Nat) : Int))))))) (by kernel_rfl) ?_
  refine HOps_end (by kernel_rfl) ?_
  refine R_cond (.tmp 11) (nd Tryd.f27 [1, 0, 1, 0]) (nd Tryd.f27 [1, 0, 1, 1]) (by kernel_rfl) (decide ((w64 (a3 + 1)) < ((a2.length : Nat) : Int))) (by kernel_rfl) (fun b6 => ?_) (fun b6 => ?_)
  · replace hm := bif_t b6 hm
    refine R_seq (nd Tryd.f27 [1, 0, 1, 0, 0]) (nd Tryd.f27 [1, 0, 1, 0, 1]) (by kernel_rfl) ?_
    obtain ⟨g7, hm⟩ := bif_n hm
    obtain ⟨g8, hm⟩ := bif_n hm
    refine R_draw 2 (rg Tryd.f27 [1, 0, 1, 0, 0]) (by kernel_rfl) [⟨true, .v (.one (tl e_i64 default a2)), [], [], [1], []⟩, ⟨true, .v (.one (.val (.int .i64 a3))), [], [], [2], []⟩, ⟨true, .v (.one (.val (.int .i64 (w64 (a3 + 1))))), [], [], [13], []⟩, ⟨true, .v (.one (.lptr (e_i64 (a2.getD (w64 (a3 + 1)).toNat default)))), [], [], [12, 14], []⟩, ⟨true, .v (.one (.val (.int .i64 (a2.getD (w64 (a3 + 1)).toNat default)))), [], [], [15], []⟩, ⟨true, .v (.one (tl e_i64 default a2)), [], [], [1], []⟩, ⟨true, .v (.one (.val (.int .i64 a3))), [], [], [2], []⟩, ⟨true, .v (.one (.lptr (e_i64 (a2.getD a3.toNat default)))), [], [], [17, 18], []⟩, ⟨true, .v (.one (.val (.int .i64 (a2.getD a3.toNat default)))), [], [], [19], []⟩, ⟨true, .v (.one (.val (.int .i64 (w64 ((a2.getD (w64 (a3 + 1)).toNat default) - (a2.getD a3.toNat default)))))), [], [], [16, 20], []⟩, ⟨true, .v (.one (.val (.int .i64 (w64 ((w64 ((a2.getD (w64 (a3 + 1)).toNat default) - (a2.getD a3.toNat default))) - 1))))), [], [], [21], []⟩, ⟨true, .v (.one (.val (.int .i64 (w64 ((w64 ((a2.getD (w64 (a3 + 1)).toNat default) - (a2.getD a3.toNat default))) - 1))))), [], [], [22], []⟩] [0, 0, 2, 7, 15, 0, 0, 96, 224, 511, 1023, 2047] (by kernel_rfl) (by kernel_rfl) (by kernel_rfl) (by kernel_rfl) (by kernel_rfl) (by kernel_rfl) ?_ ?_
    · refine A_pure (.v (.one (tl e_i64 default a2))) [1] [] (True) (by kernel_rfl) trivial ?_
      refine A_pure (.v (.one (.val (.int .i64 a3)))) [2] [] (True) (by kernel_rfl) trivial ?_
      refine A_pure (.v (.one (.val (.int .i64 (w64 (a3 + 1)))))) [13] [] (True) (by kernel_rfl) trivial ?_
      refine A_pure (.v (.one (.lptr (e_i64 (a2.getD (w64 (a3 + 1)).toNat default))))) [12, 14] [] (0 ≤ (w64 (a3 + 1)) ∧ (w64 (a3 + 1)) < ((a2.length : Nat) : Int)) (by kernel_rfl) (inb_of g7) ?_
      refine A_pure (.v (.one (.val (.int .i64 (a2.getD (w64 (a3 + 1)).toNat default))))) [15] [] (True) (by kernel_rfl) trivial ?_
      refine A_pure (.v (.one (tl e_i64 default a2))) [1] [] (True) (by kernel_rfl) trivial ?_
      refine A_pure (.v (.one (.val (.int .i64 a3)))) [2] [] (True) (by kernel_rfl) trivial ?_
      refine A_pure (.v (.one (.lptr (e_i64 (a2.getD a3.toNat default))))) [17, 18] [] (0 ≤ a3 ∧ a3 < ((a2.length : Nat) : Int)) (by kernel_rfl) (inb_of g8) ?_
      refine A_pure (.v (.one (.val (.int .i64 (a2.getD a3.toNat default))))) [19] [] (True) (by kernel_rfl) trivial ?_
      refine A_pure (.v (.one (.val (.int .i64 (w64 ((a2.getD (w64 (a3 + 1)).toNat default) - (a2.getD a3.toNat default))))))) [16, 20] [] (True) (by kernel_rfl) trivial ?_
      refine A_pure (.v (.one (.val (.int .i64 (w64 ((w64 ((a2.getD (w64 (a3 + 1)).toNat default) - (a2.getD a3.toNat default))) - 1)))))) [21] [] (True) (by kernel_rfl) trivial ?_
      refine A_pure (.v (.one (.val (.int .i64 (w64 ((w64 ((a2.getD (w64 (a3 + 1)).toNat default) - (a2.getD a3.toNat default))) - 1)))))) [22] [] (True) (by kernel_rfl) trivial ?_
      exact A_end
    · obtain rfl := Option.some.inj hm
      refine R_ret (by kernel_rfl) ?_
      exact ret_mk (by kernel_rfl) (by kernel_rfl)
  · replace hm := bif_f b6 hm
    refine R_skip (by kernel_rfl) ?_
    refine R_seq (nd Tryd.f27 [1, 1, 0]) (nd Tryd.f27 [1, 1, 1]) (by kernel_rfl) ?_
    obtain ⟨g9, hm⟩ := bif_n hm
    obtain ⟨g10, hm⟩ := bif_n hm
    refine R_draw 3 (rg Tryd.f27 [1, 1, 0]) (by kernel_rfl) [⟨true, .v (.one (tl e_i64 default a2)), [], [], [1], []⟩, ⟨true, .v (.one (.lptr (e_i64 (a2.getD (0 : Int).toNat default)))), [], [], [23], []⟩, ⟨true, .v (.one (.val (.int .i64 (a2.getD (0 : Int).toNat default)))), [], [], [24], []⟩, ⟨true, .v (.one (.bptr 1 0 1)), [], [], [3], []⟩, ⟨true, .v (.one (tl e_Reading default a1.Read)), [], [], [26], [1]⟩, ⟨true, .v (.one (.val (.int .i64 ((a1.Read.length : Nat) : Int)))), [], [], [27], []⟩, ⟨true, .v (.one (.val (.int .i64 (w64 ((a2.getD (0 : Int).toNat default) + ((a1.Read.length : Nat) : Int)))))), [], [], [25, 28], []⟩, ⟨true, .v (.one (tl e_i64 default a2)), [], [], [1], []⟩, ⟨true, .v (.one (.val (.int .i64 a3))), [], [], [2], []⟩, ⟨true, .v (.one (.lptr (e_i64 (a2.getD a3.toNat default)))), [], [], [30, 31], []⟩, ⟨true, .v (.one (.val (.int .i64 (a2.getD a3.toNat default)))), [], [], [32], []⟩, ⟨true, .v (.one (.val (.int .i64 (w64 ((w64 ((a2.getD (0 : Int).toNat default) + ((a1.Read.length : Nat) : Int))) - (a2.getD a3.toNat default)))))), [], [], [29, 33], []⟩, ⟨true, .v (.one (.val (.int .i64 (w64 ((w64 ((w64 ((a2.getD (0 : Int).toNat default) + ((a1.Read.length : Nat) : Int))) - (a2.getD a3.toNat default))) - 1))))), [], [], [34], []⟩, ⟨true, .v (.one (.val (.int .i64 (w64 ((w64 ((w64 ((a2.getD (0 : Int).toNat default) + ((a1.Read.length : Nat) : Int))) - (a2.getD a3.toNat default))) - 1))))), [], [], [35], []⟩] [0, 1, 3, 0, 8, 24, 63, 0, 0, 384, 896, 2047, 4095, 8191] (by kernel_rfl) (by kernel_rfl) (by kernel_rfl) (by kernel_rfl) (by kernel_rfl) (by kernel_rfl) ?_ ?_
    · refine A_pure (.v (.one (tl e_i64 default a2))) [1] [] (True) (by kernel_rfl) trivial ?_
      refine A_pure (.v (.one (.lptr (e_i64 (a2.getD (0 : Int).toNat default))))) [23] [] (0 ≤ 0 ∧ 0 < ((a2.length : Nat) : Int)) (by kernel_rfl) (inb_of g9) ?_
      refine A_pure (.v (.one (.val (.int .i64 (a2.getD (0 : Int).toNat default))))) [24] [] (True) (by kernel_rfl) trivial ?_
      refine A_pure (.v (.one (.bptr 1 0 1))) [3] [] (True) (by kernel_rfl) trivial ?_
      refine A_pure (.v (.one (tl e_Reading default a1.Read))) [26] [1] (True) (by kernel_rfl) trivial ?_
      refine A_pure (.v (.one (.val (.int .i64 ((a1.Read.length : Nat) : Int))))) [27] [] (True) (by kernel_rfl) trivial ?_
      refine A_pure (.v (.one (.val (.int .i64 (w64 ((a2.getD (0 : Int).toNat default) + ((a1.Read.length : Nat) : Int))))))) [25, 28] [] (True) (by kernel_rfl) trivial ?_
      refine A_pure (.v (.one (tl e_i64 default a2))) [1] [] (True) (by kernel_rfl) trivial ?_
      refine A_pure (.v (.one (.val (.int .i64 a3)))) [2] [] (True) (by kernel_rfl) trivial ?_
      refine A_pure (.v (.one (.lptr (e_i64 (a2.getD a3.toNat default))))) [30, 31] [] (0 ≤ a3 ∧ a3 < ((a2.length : Nat) : Int)) (by kernel_rfl) (inb_of g10) ?_
      refine A_pure (.v (.one (.val (.int .i64 (a2.getD a3.toNat default))))) [32] [] (True) (by kernel_rfl) trivial ?_
      refine A_pure (.v (.one (.val (.int .i64 (w64 ((w64 ((a2.getD (0 : Int).toNat default) + ((a1.Read.length : Nat) : Int))) - (a2.getD a3.toNat default))))))) [29, 33] [] (True) (by kernel_rfl) trivial ?_
      refine A_pure (.v (.one (.val (.int .i64 (w64 ((w64 ((w64 ((a2.getD (0 : Int).toNat default) + ((a1.Read.length : Nat) : Int))) - (a2.getD a3.toNat default))) - 1)))))) [34] [] (True) (by kernel_rfl) trivial ?_
      refine A_pure (.v (.one (.val (.int .i64 (w64 ((w64 ((w64 ((a2.getD (0 : Int).toNat default) + ((a1.Read.length : Nat) : Int))) - (a2.getD a3.toNat default))) - 1)))))) [35] [] (True) (by kernel_rfl) trivial ?_
      exact A_end
    · obtain rfl := Option.some.inj hm
      refine R_ret (by kernel_rfl) ?_
      exact ret_mk (by kernel_rfl) (by kernel_rfl)

end Saw
end Go.SL

namespace Go.SL
namespace Saw
open Go.Proofs
set_option maxHeartbeats 4000000

def ring_Gaps_x (r : Int × Int) : V := .tup [.one (.val (.int .i64 r.1)), .one (.val (.int .i64 r.2))]

def ring_Gaps_o (r : Int × Int) : List (Nat × (Nat × O)) := []

theorem ring_Gaps_f (r : Int × Int) : Frozen (ring_Gaps_o r) := by
  intro i k o h
  unfold ring_Gaps_o at h
  cases h

def ring_Gaps_L1_S (a1 : Ring) (v4 : (List Int)) (x12 : Int) (x13 : Int) : St :=
  { slots := [(1, .v (.one (.bptr 1 0 0))), (4, .v (.one (.own 2 0 1 v4.length))), (5, .v (.one (.val (.int .i64 (w64 (((a1.Read.length : Nat) : Int) - ((v4.length : Nat) : Int))))))), (6, .v (.one (.val (.int .i64 x12)))), (22, .v (.one (.val (.int .i64 ((v4.length : Nat) : Int))))), (23, .v (.one (.val (.int .i64 x13))))], objs := [(1, (0, .box 24 [.val (.int .i64 a1.Z), tl e_Reading default a1.Read])), (2, (0, .row 3 1 v4.length (rowf e_i64 default v4)))] }

def ring_Gaps_L1_T (a1 : Ring) (v4 : (List Int)) (x21 : Int) : St :=
  { slots := [(5, .v (.one (.val (.int .i64 (w64 (((a1.Read.length : Nat) : Int) - ((v4.length : Nat) : Int))))))), (6, .v (.one (.val (.int .i64 x21))))], objs := [] }

set_option maxRecDepth 100000 in
theorem ring_Gaps_L1_ok (w : World) (A : Nat → Prop) (hg : Globs globs w A) (a1 : Ring) (v4 : (List Int)) : ∀ (n : Nat) (x12 : Int) (x13 : Int) (res : Int), ring_Gaps_L1 a1 v4 n x12 x13 = some res → HL ({ P := Tryd.prog, w0 := w, nt := 35, A := A, globs := globs, mixed := mixed, glob := hg } : Ctx) (nd Tryd.f12 [1, 1, 1, 1, 1, 0, 1, 0, 0]) (loopQ0 0 (fun o => ring_Gaps_L1_T a1 v4 o) res) n (ring_Gaps_L1_S a1 v4 x12 x13) := by
  intro n
  induction n with
  | zero =>
    intro x12 x13 res hm
    cases hm
  | succ n ih =>
    intro x12 x13 res hm
    refine HL_succ ?_
    refine R_seq (nd Tryd.f12 [1, 1, 1, 1, 1, 0, 1, 0, 0, 0]) (nd Tryd.f12 [1, 1, 1, 1, 1, 0, 1, 0, 0, 1]) (by kernel_rfl) ?_
    refine R_region 7 (rg Tryd.f12 [1, 1, 1, 1, 1, 0, 1, 0, 0, 0]) (by kernel_rfl) ?_
    have k14 : opsOk 35 (rg Tryd.f12 [1, 1, 1, 1, 1, 0, 1, 0, 0, 0]) = true := by kernel_rfl
    refine P_op k14 (.v (.one (.val (.bool (decide (x13 < ((v4.length : Nat) : Int))))))) (by kernel_rfl) ?_
    refine HOps_end (by kernel_rfl) ?_
    refine R_seq (nd Tryd.f12 [1, 1, 1, 1, 1, 0, 1, 0, 0, 1, 0]) (nd Tryd.f12 [1, 1, 1, 1, 1, 0, 1, 0, 0, 1, 1]) (by kernel_rfl) ?_
    refine R_cond (.tmp 24) (nd Tryd.f12 [1, 1, 1, 1, 1, 0, 1, 0, 0, 1, 0, 0]) (nd Tryd.f12 [1, 1, 1, 1, 1, 0, 1, 0, 0, 1, 0, 1]) (by kernel_rfl) (decide (x13 < ((v4.length : Nat) : Int))) (by kernel_rfl) (fun b15 => ?_) (fun b15 => ?_)
    · replace hm := bif_t b15 hm
      refine R_skip (by kernel_rfl) ?_
      refine R_seq (nd Tryd.f12 [1, 1, 1, 1, 1, 0, 1, 0, 0, 1, 1, 0]) (nd Tryd.f12 [1, 1, 1, 1, 1, 0, 1, 0, 0, 1, 1, 1]) (by kernel_rfl) ?_
      refine R_block 1 (nd Tryd.f12 [1, 1, 1, 1, 1, 0, 1, 0, 0, 1, 1, 0, 0]) (by kernel_rfl) ?_
      refine R_seq (nd Tryd.f12 [1, 1, 1, 1, 1, 0, 1, 0, 0, 1, 1, 0, 0, 0]) (nd Tryd.f12 [1, 1, 1, 1, 1, 0, 1, 0, 0, 1, 1, 0, 0, 1]) (by kernel_rfl) ?_
      refine R_region 8 (rg Tryd.f12 [1, 1, 1, 1, 1, 0, 1, 0, 0, 1, 1, 0, 0, 0]) (by kernel_rfl) ?_
      have k16 : opsOk 35 (rg Tryd.f12 [1, 1, 1, 1, 1, 0, 1, 0, 0, 1, 1, 0, 0, 0]) = true := by kernel_rfl
      refine P_op k16 (.v (.one (.val (.int .i64 x13)))) (by kernel_rfl) ?_
      refine P_op k16 (.v (.one (.val (.int .i64 x13)))) (by kernel_rfl) ?_
      refine HOps_end (by kernel_rfl) ?_
      refine R_region 9 (rg Tryd.f12 [1, 1, 1, 1, 1, 0, 1, 0, 0, 1, 1, 0, 0, 1]) (by kernel_rfl) ?_
      have k17 : opsOk 35 (rg Tryd.f12 [1, 1, 1, 1, 1, 0, 1, 0, 0, 1, 1, 0, 0, 1]) = true := by kernel_rfl
      refine P_op k17 (.v (.one (.val (.int .i64 x12)))) (by kernel_rfl) ?_
      refine P_op k17 (.v (.agg [.val (.int .i64 a1.Z), tl e_Reading default a1.Read])) (by kernel_rfl) ?_
      refine P_op k17 (.v (.one (.own 2 0 1 v4.length))) (by kernel_rfl) ?_
      refine P_op k17 (.v (.one (.val (.int .i64 x13)))) (by kernel_rfl) ?_
      obtain ⟨v18, h19, hm⟩ := bind_s hm
      refine P_step k17 (obNv 3 (ring_behind_o v18)) (obSh 3 (ring_behind_o v18)) ((ring_behind_x v18).sh 3) (by kernel_rfl) (Step_call_own (x := ring_behind_x v18) (ob := ring_behind_o v18) (f := 27) (args := [(.tmp 27), (.tmp 28), (.tmp 29)]) (fn := Tryd.f27) (ys := [.agg [.val (.int .i64 a1.Z), tl e_Reading default a1.Read], .one (.own 2 0 1 v4.length), .one (.val (.int .i64 x13))]) (zs := [.agg [.val (.int .i64 a1.Z), tl e_Reading default a1.Read], .one (.lst v4.length (rowf e_i64 default v4)), .one (.val (.int .i64 x13))]) (p := ((True ∧ (True ∧ True)) ∧ (v4.length ≤ v4.length ∧ (True ∧ True)))) 3 (by kernel_rfl) (by kernel_rfl) (by kernel_rfl) (by kernel_rfl) (by kernel_rfl) (by kernel_rfl) ⟨⟨trivial, ⟨trivial, trivial⟩⟩, ⟨(Nat.le_refl _), ⟨trivial, trivial⟩⟩⟩ rfl (ring_behind_ok a1 v4 x13 v18 h19) (by kernel_rfl) (by kernel_rfl) (by kernel_rfl) (ring_behind_f v18)) ?_
      refine P_op k17 (.v (.one (.val (.int .i64 (imax x12 v18))))) (by kernel_rfl) ?_
      refine P_op k17 (.v (.one (.val (.int .i64 (imax x12 v18))))) (by kernel_rfl) ?_
      refine HOps_end (by kernel_rfl) ?_
      refine R_region 10 (rg Tryd.f12 [1, 1, 1, 1, 1, 0, 1, 0, 0, 1, 1, 1]) (by kernel_rfl) ?_
      have k20 : opsOk 35 (rg Tryd.f12 [1, 1, 1, 1, 1, 0, 1, 0, 0, 1, 1, 1]) = true := by kernel_rfl
      refine P_op k20 (.v (.one (.val (.int .i64 (w64 (x13 + 1)))))) (by kernel_rfl) ?_
      refine P_op k20 (.v (.one (.val (.int .i64 (w64 (x13 + 1)))))) (by kernel_rfl) ?_
      refine HOps_end (by kernel_rfl) ?_
      exact HL_enter (ring_Gaps_L1_S a1 v4 (imax x12 v18) (w64 (x13 + 1))) (by kernel_rfl) (by kernel_rfl) (ih (imax x12 v18) (w64 (x13 + 1)) _ hm)
    · replace hm := bif_f b15 hm
      refine R_exit 0 (by kernel_rfl) ?_
      obtain rfl := Option.some.inj hm
      exact L0_mk (by kernel_rfl) (by kernel_rfl)

set_option maxRecDepth 100000 in
theorem ring_Gaps_ok (a1 : Ring) (r : Int × Int) (hm : ring_Gaps a1 = some r) : Ct Tryd.prog globs 12 [.agg [.val (.int .i64 a1.Z), tl e_Reading default a1.Read]] (ring_Gaps_x r) (ring_Gaps_o r) := by
  unfold ring_Gaps at hm
  refine Ct_of_H (fn := Tryd.f12) (c := nd Tryd.f12 []) mixed (by kernel_rfl) (by kernel_rfl) (by kernel_rfl) fun w A hg => ?_
  show H ({ P := Tryd.prog, w0 := w, nt := 35, A := A, globs := globs, mixed := mixed, glob := hg } : Ctx) _ _ _
  refine R_seq (nd Tryd.f12 [0]) (nd Tryd.f12 [1]) (by kernel_rfl) ?_
  refine R_region 0 (rg Tryd.f12 [0]) (by kernel_rfl) ?_
  have k2 : opsOk 35 (rg Tryd.f12 [0]) = true := by kernel_rfl
  refine P_step k2 ([(1, 0)]) ([(1, (0, .box 24 [.val (.int .i64 a1.Z), tl e_Reading default a1.Read]))]) (.v (.one (.bptr 1 0 0))) (by kernel_rfl) (Step_box 24 (.tmp 0) 1 0 (.agg [.val (.int .i64 a1.Z), tl e_Reading default a1.Read]) (by kernel_rfl) (by kernel_rfl) (by kernel_rfl)) ?_
  refine P_op k2 (.v (.one (.val (.int .i64 0)))) (by kernel_rfl) ?_
  refine P_op k2 (.v (.one (.val (.int .i64 0)))) (by kernel_rfl) ?_
  refine HOps_end (by kernel_rfl) ?_
  refine R_seq (nd Tryd.f12 [1, 0]) (nd Tryd.f12 [1, 1]) (by kernel_rfl) ?_
  refine R_region 1 (rg Tryd.f12 [1, 0]) (by kernel_rfl) ?_
  have k3 : opsOk 35 (rg Tryd.f12 [1, 0]) = true := by kernel_rfl
  refine P_op k3 (.v (.agg [.val (.int .i64 a1.Z), tl e_Reading default a1.Read])) (by kernel_rfl) ?_
  obtain ⟨v4, h5, hm⟩ := bind_s hm
  refine P_step k3 (obNv 2 (ring_measured_o v4)) (obSh 2 (ring_measured_o v4)) ((ring_measured_x v4).sh 2) (by kernel_rfl) (Step_call (x := ring_measured_x v4) (ob := ring_measured_o v4) (f := 26) (args := [(.tmp 8)]) (fn := Tryd.f26) (ys := [.agg [.val (.int .i64 a1.Z), tl e_Reading default a1.Read]]) 2 (by kernel_rfl) (by kernel_rfl) (by kernel_rfl) (by kernel_rfl) (by kernel_rfl) (by kernel_rfl) rfl (ring_measured_ok a1 v4 h5) (by kernel_rfl) (by kernel_rfl)) ?_
  refine P_op k3 (.v (.one (.own 2 0 1 v4.length))) (by kernel_rfl) ?_
  refine HOps_end (by kernel_rfl) ?_
  refine R_seq (nd Tryd.f12 [1, 1, 0]) (nd Tryd.f12 [1, 1, 1]) (by kernel_rfl) ?_
  refine R_region 2 (rg Tryd.f12 [1, 1, 0]) (by kernel_rfl) ?_
  have k6 : opsOk 35 (rg Tryd.f12 [1, 1, 0]) = true := by kernel_rfl
  refine P_op k6 (.v (.one (.bptr 1 0 1))) (by kernel_rfl) ?_
  refine P_op k6 (.v (.one (tl e_Reading default a1.Read))) (by kernel_rfl) ?_
  refine P_op k6 (.v (.one (.val (.int .i64 ((a1.Read.length : Nat) : Int))))) (by kernel_rfl) ?_
  refine P_op k6 (.v (.one (.own 2 0 1 v4.length))) (by kernel_rfl) ?_
  refine P_op k6 (.v (.one (.val (.int .i64 ((v4.length : Nat) : Int))))) (by kernel_rfl) ?_
  refine P_op k6 (.v (.one (.val (.int .i64 (w64 (((a1.Read.length : Nat) : Int) - ((v4.length : Nat) : Int))))))) (by kernel_rfl) ?_
  refine P_op k6 (.v (.one (.val (.int .i64 (w64 (((a1.Read.length : Nat) : Int) - ((v4.length : Nat) : Int))))))) (by kernel_rfl) ?_
  refine HOps_end (by kernel_rfl) ?_
  refine R_seq (nd Tryd.f12 [1, 1, 1, 0]) (nd Tryd.f12 [1, 1, 1, 1]) (by kernel_rfl) ?_
  refine R_seq (nd Tryd.f12 [1, 1, 1, 0, 0]) (nd Tryd.f12 [1, 1, 1, 0, 1]) (by kernel_rfl) ?_
  refine R_region 3 (rg Tryd.f12 [1, 1, 1, 0, 0]) (by kernel_rfl) ?_
  have k7 : opsOk 35 (rg Tryd.f12 [1, 1, 1, 0, 0]) = true := by kernel_rfl
  refine P_op k7 (.v (.one (.own 2 0 1 v4.length))) (by kernel_rfl) ?_
  refine P_op k7 (.v (.one (.val (.int .i64 ((v4.length : Nat) : Int))))) (by kernel_rfl) ?_
  refine P_op k7 (.v (.one (.val (.bool (((v4.length : Nat) : Int) == 0))))) (by kernel_rfl) ?_
  refine HOps_end (by kernel_rfl) ?_
  refine R_cond (.tmp 18) (nd Tryd.f12 [1, 1, 1, 0, 1, 0]) (nd Tryd.f12 [1, 1, 1, 0, 1, 1]) (by kernel_rfl) (((v4.length : Nat) : Int) == 0) (by kernel_rfl) (fun b8 => ?_) (fun b8 => ?_)
  · replace hm := bif_t b8 hm
    refine R_seq (nd Tryd.f12 [1, 1, 1, 0, 1, 0, 0]) (nd Tryd.f12 [1, 1, 1, 0, 1, 0, 1]) (by kernel_rfl) ?_
    refine R_region 4 (rg Tryd.f12 [1, 1, 1, 0, 1, 0, 0]) (by kernel_rfl) ?_
    have k9 : opsOk 35 (rg Tryd.f12 [1, 1, 1, 0, 1, 0, 0]) = true := by kernel_rfl
    refine P_op k9 (.v (.one (.val (.int .i64 (w64 (((a1.Read.length : Nat) : Int) - ((v4.length : Nat) : Int))))))) (by kernel_rfl) ?_
    refine P_op k9 (.v (.one (.val (.int .i64 (w64 (((a1.Read.length : Nat) : Int) - ((v4.length : Nat) : Int))))))) (by kernel_rfl) ?_
    refine P_op k9 (.v (.one (.val (.int .i64 (w64 (((a1.Read.length : Nat) : Int) - ((v4.length : Nat) : Int))))))) (by kernel_rfl) ?_
    refine P_op k9 (.v (.one (.val (.int .i64 (w64 (((a1.Read.length : Nat) : Int) - ((v4.length : Nat) : Int))))))) (by kernel_rfl) ?_
    refine HOps_end (by kernel_rfl) ?_
    obtain rfl := Option.some.inj hm
    refine R_ret (by kernel_rfl) ?_
    exact ret_mk (by kernel_rfl) (by kernel_rfl)
  · replace hm := bif_f b8 hm
    refine R_skip (by kernel_rfl) ?_
    refine R_seq (nd Tryd.f12 [1, 1, 1, 1, 0]) (nd Tryd.f12 [1, 1, 1, 1, 1]) (by kernel_rfl) ?_
    refine R_region 5 (rg Tryd.f12 [1, 1, 1, 1, 0]) (by kernel_rfl) ?_
    have k10 : opsOk 35 (rg Tryd.f12 [1, 1, 1, 1, 0]) = true := by kernel_rfl
    refine P_op k10 (.v (.one (.val (.int .i64 0)))) (by kernel_rfl) ?_
    refine HOps_end (by kernel_rfl) ?_
    refine R_seq (nd Tryd.f12 [1, 1, 1, 1, 1, 0]) (nd Tryd.f12 [1, 1, 1, 1, 1, 1]) (by kernel_rfl) ?_
    refine R_seq (nd Tryd.f12 [1, 1, 1, 1, 1, 0, 0]) (nd Tryd.f12 [1, 1, 1, 1, 1, 0, 1]) (by kernel_rfl) ?_
    refine R_region 6 (rg Tryd.f12 [1, 1, 1, 1, 1, 0, 0]) (by kernel_rfl) ?_
    have k11 : opsOk 35 (rg Tryd.f12 [1, 1, 1, 1, 1, 0, 0]) = true := by kernel_rfl
    refine P_op k11 (.v (.one (.own 2 0 1 v4.length))) (by kernel_rfl) ?_
    refine P_op k11 (.v (.one (.val (.int .i64 ((v4.length : Nat) : Int))))) (by kernel_rfl) ?_
    refine P_op k11 (.v (.one (.val (.int .i64 0)))) (by kernel_rfl) ?_
    refine HOps_end (by kernel_rfl) ?_
    obtain ⟨o22, h23, hm⟩ := bind_s hm
    refine R_loop0 (nd Tryd.f12 [1, 1, 1, 1, 1, 0, 1, 0, 0]) 0 (by kernel_rfl) FUEL (fun o => ring_Gaps_L1_T a1 v4 o) o22 (HL_enter (ring_Gaps_L1_S a1 v4 0 0) (by kernel_rfl) (by kernel_rfl) (ring_Gaps_L1_ok w A hg a1 v4 FUEL 0 0 o22 h23)) ?_
    refine R_seq (nd Tryd.f12 [1, 1, 1, 1, 1, 1, 0]) (nd Tryd.f12 [1, 1, 1, 1, 1, 1, 1]) (by kernel_rfl) ?_
    refine R_region 11 (rg Tryd.f12 [1, 1, 1, 1, 1, 1, 0]) (by kernel_rfl) ?_
    have k24 : opsOk 35 (rg Tryd.f12 [1, 1, 1, 1, 1, 1, 0]) = true := by kernel_rfl
    refine P_op k24 (.v (.one (.val (.int .i64 (w64 (((a1.Read.length : Nat) : Int) - ((v4.length : Nat) : Int))))))) (by kernel_rfl) ?_
    refine P_op k24 (.v (.one (.val (.int .i64 o22)))) (by kernel_rfl) ?_
    refine P_op k24 (.v (.one (.val (.int .i64 (w64 (((a1.Read.length : Nat) : Int) - ((v4.length : Nat) : Int))))))) (by kernel_rfl) ?_
    refine P_op k24 (.v (.one (.val (.int .i64 o22)))) (by kernel_rfl) ?_
    refine HOps_end (by kernel_rfl) ?_
    obtain rfl := Option.some.inj hm
    refine R_ret (by kernel_rfl) ?_
    exact ret_mk (by kernel_rfl) (by kernel_rfl)

end Saw
end Go.SL

namespace Go.SL
namespace Saw
open Go.Proofs
set_option maxHeartbeats 4000000

def ring_floor_x (r : Int) : V := .v (.one (.val (.int .i64 r)))

def ring_floor_o (r : Int) : List (Nat × (Nat × O)) := []

theorem ring_floor_f (r : Int) : Frozen (ring_floor_o r) := by
  intro i k o h
  unfold ring_floor_o at h
  cases h

def ring_floor_k1_S (x9 : Int) : St :=
  { slots := [(5, .v (.one (.val (.int .i64 x9))))], objs := [] }

set_option maxRecDepth 100000 in
theorem ring_floor_ok (a1 : Int) (a2 : Int) (r : Int) (hm : ring_floor a1 a2 = some r) : Ct Tryd.prog globs 38 [.one (.val (.int .i64 a1)), .one (.val (.int .i64 a2))] (ring_floor_x r) (ring_floor_o r) := by
  unfold ring_floor at hm
  refine Ct_of_H (fn := Tryd.f38) (c := nd Tryd.f38 []) mixed (by kernel_rfl) (by kernel_rfl) (by kernel_rfl) fun w A hg => ?_
  show H ({ P := Tryd.prog, w0 := w, nt := 16, A := A, globs := globs, mixed := mixed, glob := hg } : Ctx) _ _ _
  refine R_seq (nd Tryd.f38 [0]) (nd Tryd.f38 [1]) (by kernel_rfl) ?_
  refine R_region 0 (rg Tryd.f38 [0]) (by kernel_rfl) ?_
  have k3 : opsOk 16 (rg Tryd.f38 [0]) = true := by kernel_rfl
  refine P_op k3 (.v (.one (.val (.int .i64 0)))) (by kernel_rfl) ?_
  refine HOps_end (by kernel_rfl) ?_
  refine R_seq (nd Tryd.f38 [1, 0]) (nd Tryd.f38 [1, 1]) (by kernel_rfl) ?_
  refine R_region 1 (rg Tryd.f38 [1, 0]) (by kernel_rfl) ?_
  have k4 : opsOk 16 (rg Tryd.f38 [1, 0]) = true := by kernel_rfl
  refine P_op k4 (.v (.one (.val (.int .i64 a1)))) (by kernel_rfl) ?_
  refine P_op k4 (.v (.one (.val (.int .i64 a2)))) (by kernel_rfl) ?_
  obtain ⟨g5, hm⟩ := bif_n hm
  refine P_opc k4 (.v (.one (.val (.int .i64 (w64 (Int.tdiv a1 a2)))))) (a2 ≠ (0 : Int)) (by kernel_rfl) (nz_of g5) ?_
  refine P_op k4 (.v (.one (.val (.int .i64 (w64 (Int.tdiv a1 a2)))))) (by kernel_rfl) ?_
  refine HOps_end (by kernel_rfl) ?_
  refine R_join (ι := Int) (nd Tryd.f38 [1, 1, 0]) (nd Tryd.f38 [1, 1, 1]) (by kernel_rfl) (fun p => ring_floor_k1_S p) (fun p => ring_floor_k1 p = some r) ?_ ?_
  · rintro x9 hm
    show H _ (ring_floor_k1_S x9) (nd Tryd.f38 [1, 1, 1]) _
    refine R_seq (nd Tryd.f38 [1, 1, 1, 0]) (nd Tryd.f38 [1, 1, 1, 1]) (by kernel_rfl) ?_
    refine R_region 4 (rg Tryd.f38 [1, 1, 1, 0]) (by kernel_rfl) ?_
    have k10 : opsOk 16 (rg Tryd.f38 [1, 1, 1, 0]) = true := by kernel_rfl
    refine P_op k10 (.v (.one (.val (.int .i64 x9)))) (by kernel_rfl) ?_
    refine P_op k10 (.v (.one (.val (.int .i64 x9)))) (by kernel_rfl) ?_
    refine HOps_end (by kernel_rfl) ?_
    obtain rfl := Option.some.inj hm
    refine R_ret (by kernel_rfl) ?_
    exact ret_mk (by kernel_rfl) (by kernel_rfl)
  · refine R_seq (nd Tryd.f38 [1, 1, 0, 0]) (nd Tryd.f38 [1, 1, 0, 1]) (by kernel_rfl) ?_
    refine R_region 2 (rg Tryd.f38 [1, 1, 0, 0]) (by kernel_rfl) ?_
    have k6 : opsOk 16 (rg Tryd.f38 [1, 1, 0, 0]) = true := by kernel_rfl
    refine P_op k6 (.v (.one (.val (.int .i64 a1)))) (by kernel_rfl) ?_
    refine P_op k6 (.v (.one (.val (.int .i64 a2)))) (by kernel_rfl) ?_
    refine P_opc k6 (.v (.one (.val (.int .i64 (Int.tmod a1 a2))))) (a2 ≠ (0 : Int)) (by kernel_rfl) (nz_of g5) ?_
    refine P_op k6 (.v (.one (.val (.bool (decide ((Int.tmod a1 a2) < 0)))))) (by kernel_rfl) ?_
    refine HOps_end (by kernel_rfl) ?_
    refine R_cond (.tmp 12) (nd Tryd.f38 [1, 1, 0, 1, 0]) (nd Tryd.f38 [1, 1, 0, 1, 1]) (by kernel_rfl) (decide ((Int.tmod a1 a2) < 0)) (by kernel_rfl) (fun b7 => ?_) (fun b7 => ?_)
    · replace hm := bif_t b7 hm
      refine R_region 3 (rg Tryd.f38 [1, 1, 0, 1, 0]) (by kernel_rfl) ?_
      have k8 : opsOk 16 (rg Tryd.f38 [1, 1, 0, 1, 0]) = true := by kernel_rfl
      refine P_op k8 (.v (.one (.val (.int .i64 (w64 (Int.tdiv a1 a2)))))) (by kernel_rfl) ?_
      refine P_op k8 (.v (.one (.val (.int .i64 (w64 ((w64 (Int.tdiv a1 a2)) - 1)))))) (by kernel_rfl) ?_
      refine P_op k8 (.v (.one (.val (.int .i64 (w64 ((w64 (Int.tdiv a1 a2)) - 1)))))) (by kernel_rfl) ?_
      refine HOps_end (by kernel_rfl) ?_
      exact J_mk (w64 ((w64 (Int.tdiv a1 a2)) - 1)) hm (by kernel_rfl) (by kernel_rfl)
    · replace hm := bif_f b7 hm
      refine R_skip (by kernel_rfl) ?_
      exact J_mk (w64 (Int.tdiv a1 a2)) hm (by kernel_rfl) (by kernel_rfl)

end Saw
end Go.SL
