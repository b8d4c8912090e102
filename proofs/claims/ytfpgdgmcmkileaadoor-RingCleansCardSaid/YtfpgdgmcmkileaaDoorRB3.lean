import Derived.Test.YtfpgdgmcmkileaaDoorRBase
set_option linter.unusedVariables false
set_option linter.unusedSimpArgs false
namespace Go.SL
namespace Saw
open Go.Proofs
set_option maxHeartbeats 4000000

def ref12_copied_x (r : Ring) : V := .v (.agg [.val (.int .i64 r.Z), .own 0 0 3 r.Read.length])

def ref12_copied_o (r : Ring) : List (Nat × (Nat × O)) := [(0, (0, .row 44 3 r.Read.length (rowf e_Reading default r.Read)))]

theorem ref12_copied_f (r : Ring) : Frozen (ref12_copied_o r) := by
  intro i k o h
  unfold ref12_copied_o at h
  rw [look_cons] at h
  split at h
  · cases h; exact fun _ _ => rfl
  · cases h

set_option maxRecDepth 100000 in
theorem ref12_copied_ok (a1 : Ring) (r : Ring) (hm : ref12_copied a1 = some r) : Ct Tryd.prog globs 32 [.agg [.val (.int .i64 a1.Z), tl e_Reading default a1.Read]] (ref12_copied_x r) (ref12_copied_o r) := by
  unfold ref12_copied at hm
  refine Ct_of_H (fn := Tryd.f32) (c := nd Tryd.f32 []) mixed (by kernel_rfl) (by kernel_rfl) (by kernel_rfl) fun w A hg => ?_
  show H ({ P := Tryd.prog, w0 := w, nt := 10, A := A, globs := globs, mixed := mixed, glob := hg } : Ctx) _ _ _
  refine R_seq (nd Tryd.f32 [0]) (nd Tryd.f32 [1]) (by kernel_rfl) ?_
  refine R_region 0 (rg Tryd.f32 [0]) (by kernel_rfl) ?_
  have k2 : opsOk 10 (rg Tryd.f32 [0]) = true := by kernel_rfl
  refine P_step k2 ([(1, 0)]) ([(1, (0, .box 24 [.val (.int .i64 a1.Z), tl e_Reading default a1.Read]))]) (.v (.one (.bptr 1 0 0))) (by kernel_rfl) (Step_box 24 (.tmp 0) 1 0 (.agg [.val (.int .i64 a1.Z), tl e_Reading default a1.Read]) (by kernel_rfl) (by kernel_rfl) (by kernel_rfl)) ?_
  refine P_step k2 ([(2, 0)]) ([(2, (0, .box 24 [.val (.int .i64 0), .emp]))]) (.v (.one (.bptr 2 0 0))) (by kernel_rfl) (Step_alloc 24 2 0 [.val (.int .i64 0), .emp] (by kernel_rfl) (by kernel_rfl) (by kernel_rfl)) ?_
  refine HOps_end (by kernel_rfl) ?_
  refine R_seq (nd Tryd.f32 [1, 0]) (nd Tryd.f32 [1, 1]) (by kernel_rfl) ?_
  obtain ⟨g3, hm⟩ := bif_n hm
  refine R_draw 1 (rg Tryd.f32 [1, 0]) (by kernel_rfl) [⟨true, .v (.one (.bptr 1 0 0)), [], [], [1], []⟩, ⟨true, .v (.one (.val (.int .i64 a1.Z))), [], [], [3], [1]⟩, ⟨true, .v (.one (.own 3 0 3 0)), [(3, 0)], [(3, (0, .row 44 3 0 (rowf e_Reading default ([] : List Reading))))], [], []⟩, ⟨true, .v (.one (.bptr 1 0 1)), [], [], [1], []⟩, ⟨true, .v (.one (tl e_Reading default a1.Read)), [], [], [6], [1]⟩, ⟨true, .v (.one (.own 3 1 3 (0 + a1.Read.length))), [(3, 1)], [(3, (1, .row 44 3 (0 + a1.Read.length) (rowf e_Reading default (([] : List Reading) ++ a1.Read))))], [5, 7], [3]⟩, ⟨true, .v (.agg [.val (.int .i64 a1.Z), .own 3 1 3 (0 + a1.Read.length)]), [], [], [4, 8], []⟩, ⟨true, .undef, [], [(2, (0, .box 24 [.val (.int .i64 a1.Z), .own 3 1 3 (0 + a1.Read.length)]))], [2, 9], [2]⟩] [0, 1, 0, 0, 8, 28, 63, 127] (by kernel_rfl) (by kernel_rfl) (by kernel_rfl) (by kernel_rfl) (by kernel_rfl) (by kernel_rfl) ?_ ?_
  · refine A_pure (.v (.one (.bptr 1 0 0))) [1] [] (True) (by kernel_rfl) trivial ?_
    refine A_pure (.v (.one (.val (.int .i64 a1.Z)))) [3] [1] (True) (by kernel_rfl) trivial ?_
    refine A_run ⟨true, .v (.one (.own 3 0 3 0)), [(3, 0)], [(3, (0, .row 44 3 0 (rowf e_Reading default ([] : List Reading))))], [], []⟩ (by kernel_rfl) (Step_lit 22 44 0 #[] 3 0 Tryd.t44 [.val (.int .i64 0), .val (.int .i64 0), .val (.bool false)] [] [] (by kernel_rfl) (by kernel_rfl) (by kernel_rfl) (by kernel_rfl) (by kernel_rfl) (by kernel_rfl) (by kernel_rfl) (by kernel_rfl) (by kernel_rfl) (by kernel_rfl) (by kernel_rfl) (rowf e_Reading default ([] : List Reading)) lit_zero) ?_
    refine A_pure (.v (.one (.bptr 1 0 1))) [1] [] (True) (by kernel_rfl) trivial ?_
    refine A_pure (.v (.one (tl e_Reading default a1.Read))) [6] [1] (True) (by kernel_rfl) trivial ?_
    refine A_run ⟨true, .v (.one (.own 3 1 3 (0 + a1.Read.length))), [(3, 1)], [(3, (1, .row 44 3 (0 + a1.Read.length) (rowf e_Reading default (([] : List Reading) ++ a1.Read))))], [5, 7], [3]⟩ (by kernel_rfl) (Step_append (.tmp 5) (.tmp 7) 22 44 3 0 1 0 0 a1.Read.length Tryd.t44 (.agg #[.int .i64 0, .int .i64 0, .bool false]) (rowf e_Reading default ([] : List Reading)) (rowf e_Reading default a1.Read) (rowf e_Reading default (([] : List Reading) ++ a1.Read)) (.one (tl e_Reading default a1.Read)) (True) (by kernel_rfl) (by kernel_rfl) (by kernel_rfl) (by kernel_rfl) (by kernel_rfl) (by kernel_rfl) (by kernel_rfl) (by kernel_rfl) (by kernel_rfl) (by kernel_rfl) (by kernel_rfl) trivial (fun _ _ => by kernel_rfl) (Nat.le_refl _) (room_of g3) (rowf_app e_Reading default ([] : List Reading) a1.Read 0 a1.Read.length rfl rfl)) ?_
    refine A_pure (.v (.agg [.val (.int .i64 a1.Z), .own 3 1 3 (0 + a1.Read.length)])) [4, 8] [] (True) (by kernel_rfl) trivial ?_
    refine A_run ⟨true, .undef, [], [(2, (0, .box 24 [.val (.int .i64 a1.Z), .own 3 1 3 (0 + a1.Read.length)]))], [2, 9], [2]⟩ (by kernel_rfl) (Step_store_box 24 (.tmp 2) (.tmp 9) 2 0 0 24 [.val (.int .i64 0), .emp] (.agg [.val (.int .i64 a1.Z), .own 3 1 3 (0 + a1.Read.length)]) [.val (.int .i64 a1.Z), .own 3 1 3 (0 + a1.Read.length)] (by kernel_rfl) (by kernel_rfl) (by kernel_rfl) (by kernel_rfl) (by kernel_rfl) (by kernel_rfl) (by kernel_rfl) (by kernel_rfl)) ?_
    exact A_end
  · obtain rfl := Option.some.inj hm
    refine H_swap 3 0 ?_
    refine R_ret (by kernel_rfl) ?_
    show RetQ _ _ (ref12_copied_x (Ring.mk a1.Z (([] : List Reading) ++ a1.Read))) (ref12_copied_o (Ring.mk a1.Z (([] : List Reading) ++ a1.Read))) .ret _
    simp only [ref12_copied_x, ref12_copied_o, show (([] : List Reading) ++ a1.Read).length = (0 + a1.Read.length) from (len_app rfl rfl)]
    exact ret_mk (by kernel_rfl) (by kernel_rfl)

end Saw
end Go.SL
