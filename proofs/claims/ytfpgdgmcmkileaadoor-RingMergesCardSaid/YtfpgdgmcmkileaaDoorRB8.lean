import Derived.Test.YtfpgdgmcmkileaaDoorRBase
import Derived.Test.YtfpgdgmcmkileaaDoorRB1
import Derived.Test.YtfpgdgmcmkileaaDoorRB3
set_option linter.unusedVariables false
set_option linter.unusedSimpArgs false
namespace Go.SL
namespace Saw
open Go.Proofs
set_option maxHeartbeats 4000000

def ref12_Merge_x (r : Ring × Int) : V := .tup [.agg [.val (.int .i64 r.1.Z), .own 0 0 3 r.1.Read.length], .one (.val (.int .i64 r.2))]

def ref12_Merge_o (r : Ring × Int) : List (Nat × (Nat × O)) := [(0, (0, .row 44 3 r.1.Read.length (rowf e_Reading default r.1.Read)))]

theorem ref12_Merge_f (r : Ring × Int) : Frozen (ref12_Merge_o r) := by
  intro i k o h
  unfold ref12_Merge_o at h
  rw [look_cons] at h
  split at h
  · cases h; exact fun _ _ => rfl
  · cases h

def ref12_Merge_k3_S (a2 : Ring) (v22 : Ring) (x25 : Int) (l33 : List Reading) (l33n : Nat) : St :=
  { slots := [(3, .v (.one (.bptr 2 0 0))), (4, .v (.one (.bptr 3 0 0))), (8, .v (.one (.bptr 5 0 0))), (9, .v (.one (.val (.int .i64 x25))))], objs := [(2, (0, .box 24 [.val (.int .i64 a2.Z), tl e_Reading default a2.Read])), (3, (0, .box 24 [.val (.int .i64 0), .emp])), (4, (0, .row 44 3 l33n (rowf e_Reading default l33))), (5, (0, .box 24 [.val (.int .i64 v22.Z), .own 4 0 3 l33n]))] }

def ref12_Merge_L2_S (a2 : Ring) (v22 : Ring) (x25 : Int) (l26 : List Reading) (l26n : Nat) : St :=
  { slots := [(3, .v (.one (.bptr 2 0 0))), (4, .v (.one (.bptr 3 0 0))), (8, .v (.one (.bptr 5 0 0))), (9, .v (.one (.val (.int .i64 x25))))], objs := [(2, (0, .box 24 [.val (.int .i64 a2.Z), tl e_Reading default a2.Read])), (3, (0, .box 24 [.val (.int .i64 0), .emp])), (4, (0, .row 44 3 l26n (rowf e_Reading default l26))), (5, (0, .box 24 [.val (.int .i64 v22.Z), .own 4 0 3 l26n]))] }

def ref12_Merge_L2_T (v22 : Ring) (l35 : List Reading) : St :=
  { slots := [(4, .v (.one (.bptr 3 0 0))), (8, .v (.one (.bptr 5 0 0)))], objs := [(3, (0, .box 24 [.val (.int .i64 0), .emp])), (4, (0, .row 44 3 l35.length (rowf e_Reading default l35))), (5, (0, .box 24 [.val (.int .i64 v22.Z), .own 4 0 3 l35.length]))] }

def ref12_Merge_k1_S (a1 : Ring) (a2 : Ring) (x18 : Bool) : St :=
  { slots := [(2, .v (.one (.bptr 1 0 0))), (3, .v (.one (.bptr 2 0 0))), (4, .v (.one (.bptr 3 0 0))), (35, .v (.one (.val (.bool x18))))], objs := [(1, (0, .box 24 [.val (.int .i64 a1.Z), tl e_Reading default a1.Read])), (2, (0, .box 24 [.val (.int .i64 a2.Z), tl e_Reading default a2.Read])), (3, (0, .box 24 [.val (.int .i64 0), .emp]))] }

set_option maxRecDepth 100000 in
theorem ref12_Merge_L2_ok (w : World) (A : Nat → Prop) (hg : Globs globs w A) (a2 : Ring) (v22 : Ring) : ∀ (n : Nat) (x25 : Int) (l26 : List Reading) (l26n : Nat) (res : (List Reading)), l26.length = l26n → ref12_Merge_L2 a2 n x25 l26 = some res → HL ({ P := Tryd.prog, w0 := w, nt := 63, A := A, globs := globs, mixed := mixed, glob := hg } : Ctx) (nd Tryd.f24 [1, 1, 1, 1, 1, 0, 1, 0, 0]) (loopQ0 0 (fun o => ref12_Merge_L2_T v22 o) res) n (ref12_Merge_L2_S a2 v22 x25 l26 l26n) := by
  intro n
  induction n with
  | zero =>
    intro x25 l26 l26n res hl0 hm
    cases hm
  | succ n ih =>
    intro x25 l26 l26n res hl0 hm
    subst hl0
    refine HL_succ ?_
    refine R_seq (nd Tryd.f24 [1, 1, 1, 1, 1, 0, 1, 0, 0, 0]) (nd Tryd.f24 [1, 1, 1, 1, 1, 0, 1, 0, 0, 1]) (by kernel_rfl) ?_
    refine R_seq (nd Tryd.f24 [1, 1, 1, 1, 1, 0, 1, 0, 0, 0, 0]) (nd Tryd.f24 [1, 1, 1, 1, 1, 0, 1, 0, 0, 0, 1]) (by kernel_rfl) ?_
    refine R_region 11 (rg Tryd.f24 [1, 1, 1, 1, 1, 0, 1, 0, 0, 0, 0]) (by kernel_rfl) ?_
    have k27 : opsOk 63 (rg Tryd.f24 [1, 1, 1, 1, 1, 0, 1, 0, 0, 0, 0]) = true := by kernel_rfl
    refine P_op k27 (.v (.one (.val (.int .i64 x25)))) (by kernel_rfl) ?_
    refine P_op k27 (.v (.one (.bptr 5 0 1))) (by kernel_rfl) ?_
    refine P_op k27 (.v (.one (.own 4 0 3 l26.length))) (by kernel_rfl) ?_
    refine P_op k27 (.v (.one (.val (.int .i64 ((l26.length : Nat) : Int))))) (by kernel_rfl) ?_
    refine P_op k27 (.v (.one (.val (.bool (decide (x25 < ((l26.length : Nat) : Int))))))) (by kernel_rfl) ?_
    refine HOps_end (by kernel_rfl) ?_
    refine R_cond (.tmp 43) (nd Tryd.f24 [1, 1, 1, 1, 1, 0, 1, 0, 0, 0, 1, 0]) (nd Tryd.f24 [1, 1, 1, 1, 1, 0, 1, 0, 0, 0, 1, 1]) (by kernel_rfl) (decide (x25 < ((l26.length : Nat) : Int))) (by kernel_rfl) (fun b28 => ?_) (fun b28 => ?_)
    · replace hm := bif_t b28 hm
      refine R_skip (by kernel_rfl) ?_
      refine R_join (ι := (List Reading) × Nat) (nd Tryd.f24 [1, 1, 1, 1, 1, 0, 1, 0, 0, 1, 0]) (nd Tryd.f24 [1, 1, 1, 1, 1, 0, 1, 0, 0, 1, 1]) (by kernel_rfl) (fun p => ref12_Merge_k3_S a2 v22 x25 p.1 p.2) (fun p => p.1.length = p.2 ∧ ref12_Merge_k3 x25 (ref12_Merge_L2 a2 n) p.1 = some res) ?_ ?_
      · rintro ⟨l33, l33n⟩ ⟨el33, hm⟩
        replace el33 : l33.length = l33n := el33
        subst el33
        show H _ (ref12_Merge_k3_S a2 v22 x25 l33 l33.length) (nd Tryd.f24 [1, 1, 1, 1, 1, 0, 1, 0, 0, 1, 1]) _
        refine R_region 12 (rg Tryd.f24 [1, 1, 1, 1, 1, 0, 1, 0, 0, 1, 1]) (by kernel_rfl) ?_
        have k34 : opsOk 63 (rg Tryd.f24 [1, 1, 1, 1, 1, 0, 1, 0, 0, 1, 1]) = true := by kernel_rfl
        refine P_op k34 (.v (.one (.val (.int .i64 x25)))) (by kernel_rfl) ?_
        refine P_op k34 (.v (.one (.val (.int .i64 (w64 (x25 + 1)))))) (by kernel_rfl) ?_
        refine P_op k34 (.v (.one (.val (.int .i64 (w64 (x25 + 1)))))) (by kernel_rfl) ?_
        refine HOps_end (by kernel_rfl) ?_
        exact HL_enter (ref12_Merge_L2_S a2 v22 (w64 (x25 + 1)) l33 l33.length) (by kernel_rfl) (by kernel_rfl) (ih (w64 (x25 + 1)) l33 l33.length _ rfl hm)
      · refine R_block 1 (nd Tryd.f24 [1, 1, 1, 1, 1, 0, 1, 0, 0, 1, 0, 0]) (by kernel_rfl) ?_
        refine R_seq (nd Tryd.f24 [1, 1, 1, 1, 1, 0, 1, 0, 0, 1, 0, 0, 0]) (nd Tryd.f24 [1, 1, 1, 1, 1, 0, 1, 0, 0, 1, 0, 0, 1]) (by kernel_rfl) ?_
        refine R_region 13 (rg Tryd.f24 [1, 1, 1, 1, 1, 0, 1, 0, 0, 1, 0, 0, 0]) (by kernel_rfl) ?_
        have k29 : opsOk 63 (rg Tryd.f24 [1, 1, 1, 1, 1, 0, 1, 0, 0, 1, 0, 0, 0]) = true := by kernel_rfl
        refine P_op k29 (.v (.one (.bptr 5 0 1))) (by kernel_rfl) ?_
        refine P_op k29 (.v (.one (.own 4 0 3 l26.length))) (by kernel_rfl) ?_
        refine P_op k29 (.v (.one (.val (.int .i64 x25)))) (by kernel_rfl) ?_
        obtain ⟨g30, hm⟩ := bif_n hm
        refine P_opc k29 (.v (.one (.rptr 4 0 3 x25.toNat 0))) (0 ≤ x25 ∧ x25 < ((l26.length : Nat) : Int)) (by kernel_rfl) (inb_of g30) ?_
        refine P_op k29 (.v (.one (.rptr 4 0 3 x25.toNat 2))) (by kernel_rfl) ?_
        refine P_opc k29 (.v (.one (.val (.bool ((l26.getD x25.toNat default).Ok))))) (x25.toNat < l26.length) (by kernel_rfl) (toNat_lt (inb_of g30)) ?_
        refine P_op k29 (.v (.one (.val (.bool (!((l26.getD x25.toNat default).Ok)))))) (by kernel_rfl) ?_
        refine HOps_end (by kernel_rfl) ?_
        refine R_cond (.tmp 52) (nd Tryd.f24 [1, 1, 1, 1, 1, 0, 1, 0, 0, 1, 0, 0, 1, 0]) (nd Tryd.f24 [1, 1, 1, 1, 1, 0, 1, 0, 0, 1, 0, 0, 1, 1]) (by kernel_rfl) (!((l26.getD x25.toNat default).Ok)) (by kernel_rfl) (fun b31 => ?_) (fun b31 => ?_)
        · replace hm := bif_t b31 hm
          obtain ⟨g32, hm⟩ := bif_n hm
          refine R_draw 14 (rg Tryd.f24 [1, 1, 1, 1, 1, 0, 1, 0, 0, 1, 0, 0, 1, 0]) (by kernel_rfl) [⟨true, .v (.one (.bptr 5 0 1)), [], [], [8], []⟩, ⟨true, .v (.one (.own 4 0 3 l26.length)), [], [], [53], [5]⟩, ⟨true, .v (.one (.val (.int .i64 x25))), [], [], [9], []⟩, ⟨true, .v (.one (.bptr 2 0 1)), [], [], [3], []⟩, ⟨true, .v (.one (tl e_Reading default a2.Read)), [], [], [56], [2]⟩, ⟨true, .v (.one (.val (.int .i64 x25))), [], [], [9], []⟩, ⟨true, .v (.one (.lptr (e_Reading (a2.Read.getD x25.toNat default)))), [], [], [57, 58], []⟩, ⟨true, .v (.agg [.val (.int .i64 (((a2.Read.getD x25.toNat default).P).X)), .val (.int .i64 (((a2.Read.getD x25.toNat default).P).Y)), .val (.bool ((a2.Read.getD x25.toNat default).Ok))]), [], [], [59], []⟩, ⟨true, .v (.one (.rptr 4 0 3 x25.toNat 0)), [], [], [54, 55], []⟩, ⟨true, .undef, [], [(4, (0, .row 44 3 l26.length (rowf e_Reading default (l26.set x25.toNat (a2.Read.getD x25.toNat default)))))], [60, 61], [4]⟩] [0, 1, 0, 0, 8, 0, 56, 120, 255, 511] (by kernel_rfl) (by kernel_rfl) (by kernel_rfl) (by kernel_rfl) (by kernel_rfl) (by kernel_rfl) ?_ ?_
          · refine A_pure (.v (.one (.bptr 5 0 1))) [8] [] (True) (by kernel_rfl) trivial ?_
            refine A_pure (.v (.one (.own 4 0 3 l26.length))) [53] [5] (True) (by kernel_rfl) trivial ?_
            refine A_pure (.v (.one (.val (.int .i64 x25)))) [9] [] (True) (by kernel_rfl) trivial ?_
            refine A_pure (.v (.one (.bptr 2 0 1))) [3] [] (True) (by kernel_rfl) trivial ?_
            refine A_pure (.v (.one (tl e_Reading default a2.Read))) [56] [2] (True) (by kernel_rfl) trivial ?_
            refine A_pure (.v (.one (.val (.int .i64 x25)))) [9] [] (True) (by kernel_rfl) trivial ?_
            refine A_pure (.v (.one (.lptr (e_Reading (a2.Read.getD x25.toNat default))))) [57, 58] [] (0 ≤ x25 ∧ x25 < ((a2.Read.length : Nat) : Int)) (by kernel_rfl) (inb_of g32) ?_
            refine A_pure (.v (.agg [.val (.int .i64 (((a2.Read.getD x25.toNat default).P).X)), .val (.int .i64 (((a2.Read.getD x25.toNat default).P).Y)), .val (.bool ((a2.Read.getD x25.toNat default).Ok))])) [59] [] (True) (by kernel_rfl) trivial ?_
            refine A_pure (.v (.one (.rptr 4 0 3 x25.toNat 0))) [54, 55] [] (0 ≤ x25 ∧ x25 < ((l26.length : Nat) : Int)) (by kernel_rfl) (inb_of g30) ?_
            refine A_run ⟨true, .undef, [], [(4, (0, .row 44 3 l26.length (rowf e_Reading default (l26.set x25.toNat (a2.Read.getD x25.toNat default)))))], [60, 61], [4]⟩ (by kernel_rfl) (Step_store_row 44 (.tmp 61) (.tmp 60) 4 0 3 x25.toNat 0 44 l26.length (rowf e_Reading default l26) (rowf e_Reading default (l26.set x25.toNat (a2.Read.getD x25.toNat default))) (.agg [.val (.int .i64 (((a2.Read.getD x25.toNat default).P).X)), .val (.int .i64 (((a2.Read.getD x25.toNat default).P).Y)), .val (.bool ((a2.Read.getD x25.toNat default).Ok))]) (by kernel_rfl) (by kernel_rfl) (by kernel_rfl) (by kernel_rfl) (by kernel_rfl) (by kernel_rfl) (by kernel_rfl) (by kernel_rfl) (toNat_lt (inb_of g30)) (rowf_set e_Reading default (a2.Read.getD x25.toNat default) l26 l26.length x25.toNat 0 [.val (.int .i64 (((a2.Read.getD x25.toNat default).P).X)), .val (.int .i64 (((a2.Read.getD x25.toNat default).P).Y)), .val (.bool ((a2.Read.getD x25.toNat default).Ok))] rfl (by kernel_rfl))) ?_
            exact A_end
          · exact J_mk ((l26.set x25.toNat (a2.Read.getD x25.toNat default)), l26.length) ⟨(len_set rfl), hm⟩ (by kernel_rfl) (by kernel_rfl)
        · replace hm := bif_f b31 hm
          refine R_skip (by kernel_rfl) ?_
          exact J_mk (l26, l26.length) ⟨rfl, hm⟩ (by kernel_rfl) (by kernel_rfl)
    · replace hm := bif_f b28 hm
      refine R_exit 0 (by kernel_rfl) ?_
      obtain rfl := Option.some.inj hm
      exact L0_mk (by kernel_rfl) (by kernel_rfl)

set_option maxRecDepth 100000 in
theorem ref12_Merge_ok (a1 : Ring) (a2 : Ring) (r : Ring × Int) (hm : ref12_Merge a1 a2 = some r) : Ct Tryd.prog globs 24 [.agg [.val (.int .i64 a1.Z), tl e_Reading default a1.Read], .agg [.val (.int .i64 a2.Z), tl e_Reading default a2.Read]] (ref12_Merge_x r) (ref12_Merge_o r) := by
  unfold ref12_Merge at hm
  refine Ct_of_H (fn := Tryd.f24) (c := nd Tryd.f24 []) mixed (by kernel_rfl) (by kernel_rfl) (by kernel_rfl) fun w A hg => ?_
  show H ({ P := Tryd.prog, w0 := w, nt := 63, A := A, globs := globs, mixed := mixed, glob := hg } : Ctx) _ _ _
  refine R_seq (nd Tryd.f24 [0]) (nd Tryd.f24 [1]) (by kernel_rfl) ?_
  refine R_region 0 (rg Tryd.f24 [0]) (by kernel_rfl) ?_
  have k3 : opsOk 63 (rg Tryd.f24 [0]) = true := by kernel_rfl
  refine P_step k3 ([(1, 0)]) ([(1, (0, .box 24 [.val (.int .i64 a1.Z), tl e_Reading default a1.Read]))]) (.v (.one (.bptr 1 0 0))) (by kernel_rfl) (Step_box 24 (.tmp 0) 1 0 (.agg [.val (.int .i64 a1.Z), tl e_Reading default a1.Read]) (by kernel_rfl) (by kernel_rfl) (by kernel_rfl)) ?_
  refine P_step k3 ([(2, 0)]) ([(2, (0, .box 24 [.val (.int .i64 a2.Z), tl e_Reading default a2.Read]))]) (.v (.one (.bptr 2 0 0))) (by kernel_rfl) (Step_box 24 (.tmp 1) 2 0 (.agg [.val (.int .i64 a2.Z), tl e_Reading default a2.Read]) (by kernel_rfl) (by kernel_rfl) (by kernel_rfl)) ?_
  refine P_step k3 ([(3, 0)]) ([(3, (0, .box 24 [.val (.int .i64 0), .emp]))]) (.v (.one (.bptr 3 0 0))) (by kernel_rfl) (Step_alloc 24 3 0 [.val (.int .i64 0), .emp] (by kernel_rfl) (by kernel_rfl) (by kernel_rfl)) ?_
  refine P_op k3 (.v (.one (.val (.int .i64 0)))) (by kernel_rfl) ?_
  refine HOps_end (by kernel_rfl) ?_
  refine R_seq (nd Tryd.f24 [1, 0]) (nd Tryd.f24 [1, 1]) (by kernel_rfl) ?_
  refine R_seq (nd Tryd.f24 [1, 0, 0]) (nd Tryd.f24 [1, 0, 1]) (by kernel_rfl) ?_
  refine R_region 1 (rg Tryd.f24 [1, 0, 0]) (by kernel_rfl) ?_
  have k4 : opsOk 63 (rg Tryd.f24 [1, 0, 0]) = true := by kernel_rfl
  refine P_op k4 (.v (.agg [.val (.int .i64 a1.Z), tl e_Reading default a1.Read])) (by kernel_rfl) ?_
  obtain ⟨v5, h6, hm⟩ := bind_s hm
  refine P_step k4 (obNv 4 (ref12_Check_o v5)) (obSh 4 (ref12_Check_o v5)) ((ref12_Check_x v5).sh 4) (by kernel_rfl) (Step_call (x := ref12_Check_x v5) (ob := ref12_Check_o v5) (f := 15) (args := [(.tmp 10)]) (fn := Tryd.f15) (ys := [.agg [.val (.int .i64 a1.Z), tl e_Reading default a1.Read]]) 4 (by kernel_rfl) (by kernel_rfl) (by kernel_rfl) (by kernel_rfl) (by kernel_rfl) (by kernel_rfl) rfl (ref12_Check_ok a1 v5 h6) (by kernel_rfl) (by kernel_rfl)) ?_
  refine P_op k4 (.v (.one (.val (.int .i64 v5)))) (by kernel_rfl) ?_
  refine HOps_end (by kernel_rfl) ?_
  refine R_seq (nd Tryd.f24 [1, 0, 1, 0]) (nd Tryd.f24 [1, 0, 1, 1]) (by kernel_rfl) ?_
  refine R_region 2 (rg Tryd.f24 [1, 0, 1, 0]) (by kernel_rfl) ?_
  have k7 : opsOk 63 (rg Tryd.f24 [1, 0, 1, 0]) = true := by kernel_rfl
  refine P_op k7 (.v (.one (.val (.int .i64 v5)))) (by kernel_rfl) ?_
  refine P_op k7 (.v (.one (.val (.bool (v5 != 0))))) (by kernel_rfl) ?_
  refine HOps_end (by kernel_rfl) ?_
  refine R_cond (.tmp 13) (nd Tryd.f24 [1, 0, 1, 1, 0]) (nd Tryd.f24 [1, 0, 1, 1, 1]) (by kernel_rfl) (v5 != 0) (by kernel_rfl) (fun b8 => ?_) (fun b8 => ?_)
  · replace hm := bif_t b8 hm
    refine R_seq (nd Tryd.f24 [1, 0, 1, 1, 0, 0]) (nd Tryd.f24 [1, 0, 1, 1, 0, 1]) (by kernel_rfl) ?_
    refine R_region 3 (rg Tryd.f24 [1, 0, 1, 1, 0, 0]) (by kernel_rfl) ?_
    have k9 : opsOk 63 (rg Tryd.f24 [1, 0, 1, 1, 0, 0]) = true := by kernel_rfl
    refine P_op k9 (.v (.agg [.val (.int .i64 0), .emp])) (by kernel_rfl) ?_
    refine P_op k9 (.v (.one (.val (.int .i64 v5)))) (by kernel_rfl) ?_
    refine P_write k9 ([(3, (0, .box 24 [.val (.int .i64 0), .emp]))]) (.undef) (by kernel_rfl) (Step_store_box 24 (.tmp 4) (.tmp 14) 3 0 0 24 [.val (.int .i64 0), .emp] (.agg [.val (.int .i64 0), .emp]) [.val (.int .i64 0), .emp] (by kernel_rfl) (by kernel_rfl) (by kernel_rfl) (by kernel_rfl) (by kernel_rfl) (by kernel_rfl) (by kernel_rfl) (by kernel_rfl)) ?_
    refine P_op k9 (.v (.one (.val (.int .i64 v5)))) (by kernel_rfl) ?_
    refine HOps_end (by kernel_rfl) ?_
    refine H_ownB 3 0 24 1 6 44 3 [.val (.int .i64 0), .emp] (rowf e_Reading default ([] : List Reading)) (by kernel_rfl) ?_
    obtain rfl := Option.some.inj hm
    refine H_swap 6 0 ?_
    refine R_ret (by kernel_rfl) ?_
    show RetQ _ _ (ref12_Merge_x ((Ring.mk 0 ([] : List Reading)), v5)) (ref12_Merge_o ((Ring.mk 0 ([] : List Reading)), v5)) .ret _
    simp only [ref12_Merge_x, ref12_Merge_o, show ([] : List Reading).length = 0 from rfl]
    exact ret_mk (by kernel_rfl) (by kernel_rfl)
  · replace hm := bif_f b8 hm
    refine R_skip (by kernel_rfl) ?_
    refine R_seq (nd Tryd.f24 [1, 1, 0]) (nd Tryd.f24 [1, 1, 1]) (by kernel_rfl) ?_
    refine R_seq (nd Tryd.f24 [1, 1, 0, 0]) (nd Tryd.f24 [1, 1, 0, 1]) (by kernel_rfl) ?_
    refine R_region 4 (rg Tryd.f24 [1, 1, 0, 0]) (by kernel_rfl) ?_
    have k10 : opsOk 63 (rg Tryd.f24 [1, 1, 0, 0]) = true := by kernel_rfl
    refine P_op k10 (.v (.agg [.val (.int .i64 a2.Z), tl e_Reading default a2.Read])) (by kernel_rfl) ?_
    obtain ⟨v11, h12, hm⟩ := bind_s hm
    refine P_step k10 (obNv 4 (ref12_Check_o v11)) (obSh 4 (ref12_Check_o v11)) ((ref12_Check_x v11).sh 4) (by kernel_rfl) (Step_call (x := ref12_Check_x v11) (ob := ref12_Check_o v11) (f := 15) (args := [(.tmp 16)]) (fn := Tryd.f15) (ys := [.agg [.val (.int .i64 a2.Z), tl e_Reading default a2.Read]]) 4 (by kernel_rfl) (by kernel_rfl) (by kernel_rfl) (by kernel_rfl) (by kernel_rfl) (by kernel_rfl) rfl (ref12_Check_ok a2 v11 h12) (by kernel_rfl) (by kernel_rfl)) ?_
    refine P_op k10 (.v (.one (.val (.int .i64 v11)))) (by kernel_rfl) ?_
    refine HOps_end (by kernel_rfl) ?_
    refine R_seq (nd Tryd.f24 [1, 1, 0, 1, 0]) (nd Tryd.f24 [1, 1, 0, 1, 1]) (by kernel_rfl) ?_
    refine R_region 5 (rg Tryd.f24 [1, 1, 0, 1, 0]) (by kernel_rfl) ?_
    have k13 : opsOk 63 (rg Tryd.f24 [1, 1, 0, 1, 0]) = true := by kernel_rfl
    refine P_op k13 (.v (.one (.val (.int .i64 v11)))) (by kernel_rfl) ?_
    refine P_op k13 (.v (.one (.val (.bool (v11 != 0))))) (by kernel_rfl) ?_
    refine HOps_end (by kernel_rfl) ?_
    refine R_cond (.tmp 19) (nd Tryd.f24 [1, 1, 0, 1, 1, 0]) (nd Tryd.f24 [1, 1, 0, 1, 1, 1]) (by kernel_rfl) (v11 != 0) (by kernel_rfl) (fun b14 => ?_) (fun b14 => ?_)
    · replace hm := bif_t b14 hm
      refine R_seq (nd Tryd.f24 [1, 1, 0, 1, 1, 0, 0]) (nd Tryd.f24 [1, 1, 0, 1, 1, 0, 1]) (by kernel_rfl) ?_
      refine R_region 6 (rg Tryd.f24 [1, 1, 0, 1, 1, 0, 0]) (by kernel_rfl) ?_
      have k15 : opsOk 63 (rg Tryd.f24 [1, 1, 0, 1, 1, 0, 0]) = true := by kernel_rfl
      refine P_op k15 (.v (.agg [.val (.int .i64 0), .emp])) (by kernel_rfl) ?_
      refine P_op k15 (.v (.one (.val (.int .i64 v11)))) (by kernel_rfl) ?_
      refine P_write k15 ([(3, (0, .box 24 [.val (.int .i64 0), .emp]))]) (.undef) (by kernel_rfl) (Step_store_box 24 (.tmp 4) (.tmp 20) 3 0 0 24 [.val (.int .i64 0), .emp] (.agg [.val (.int .i64 0), .emp]) [.val (.int .i64 0), .emp] (by kernel_rfl) (by kernel_rfl) (by kernel_rfl) (by kernel_rfl) (by kernel_rfl) (by kernel_rfl) (by kernel_rfl) (by kernel_rfl)) ?_
      refine P_op k15 (.v (.one (.val (.int .i64 v11)))) (by kernel_rfl) ?_
      refine HOps_end (by kernel_rfl) ?_
      refine H_ownB 3 0 24 1 7 44 3 [.val (.int .i64 0), .emp] (rowf e_Reading default ([] : List Reading)) (by kernel_rfl) ?_
      obtain rfl := Option.some.inj hm
      refine H_swap 7 0 ?_
      refine R_ret (by kernel_rfl) ?_
      show RetQ _ _ (ref12_Merge_x ((Ring.mk 0 ([] : List Reading)), v11)) (ref12_Merge_o ((Ring.mk 0 ([] : List Reading)), v11)) .ret _
      simp only [ref12_Merge_x, ref12_Merge_o, show ([] : List Reading).length = 0 from rfl]
      exact ret_mk (by kernel_rfl) (by kernel_rfl)
    · replace hm := bif_f b14 hm
      refine R_skip (by kernel_rfl) ?_
      refine R_seq (nd Tryd.f24 [1, 1, 1, 0]) (nd Tryd.f24 [1, 1, 1, 1]) (by kernel_rfl) ?_
      refine R_join (ι := Bool) (nd Tryd.f24 [1, 1, 1, 0, 0]) (nd Tryd.f24 [1, 1, 1, 0, 1]) (by kernel_rfl) (fun p => ref12_Merge_k1_S a1 a2 p) (fun p => ref12_Merge_k1 a1 a2 p = some r) ?_ ?_
      · rintro x18 hm
        show H _ (ref12_Merge_k1_S a1 a2 x18) (nd Tryd.f24 [1, 1, 1, 0, 1]) _
        refine R_cond (.tmp 35) (nd Tryd.f24 [1, 1, 1, 0, 1, 0]) (nd Tryd.f24 [1, 1, 1, 0, 1, 1]) (by kernel_rfl) x18 (by kernel_rfl) (fun b19 => ?_) (fun b19 => ?_)
        · replace hm := bif_t b19 hm
          refine R_seq (nd Tryd.f24 [1, 1, 1, 0, 1, 0, 0]) (nd Tryd.f24 [1, 1, 1, 0, 1, 0, 1]) (by kernel_rfl) ?_
          refine R_region 8 (rg Tryd.f24 [1, 1, 1, 0, 1, 0, 0]) (by kernel_rfl) ?_
          have k20 : opsOk 63 (rg Tryd.f24 [1, 1, 1, 0, 1, 0, 0]) = true := by kernel_rfl
          refine P_op k20 (.v (.agg [.val (.int .i64 0), .emp])) (by kernel_rfl) ?_
          refine P_write k20 ([(3, (0, .box 24 [.val (.int .i64 0), .emp]))]) (.undef) (by kernel_rfl) (Step_store_box 24 (.tmp 4) (.tmp 36) 3 0 0 24 [.val (.int .i64 0), .emp] (.agg [.val (.int .i64 0), .emp]) [.val (.int .i64 0), .emp] (by kernel_rfl) (by kernel_rfl) (by kernel_rfl) (by kernel_rfl) (by kernel_rfl) (by kernel_rfl) (by kernel_rfl) (by kernel_rfl)) ?_
          refine P_op k20 (.v (.one (.val (.int .i64 19)))) (by kernel_rfl) ?_
          refine HOps_end (by kernel_rfl) ?_
          refine H_ownB 3 0 24 1 8 44 3 [.val (.int .i64 0), .emp] (rowf e_Reading default ([] : List Reading)) (by kernel_rfl) ?_
          obtain rfl := Option.some.inj hm
          refine H_swap 8 0 ?_
          refine R_ret (by kernel_rfl) ?_
          show RetQ _ _ (ref12_Merge_x ((Ring.mk 0 ([] : List Reading)), 19)) (ref12_Merge_o ((Ring.mk 0 ([] : List Reading)), 19)) .ret _
          simp only [ref12_Merge_x, ref12_Merge_o, show ([] : List Reading).length = 0 from rfl]
          exact ret_mk (by kernel_rfl) (by kernel_rfl)
        · replace hm := bif_f b19 hm
          refine R_skip (by kernel_rfl) ?_
          refine R_seq (nd Tryd.f24 [1, 1, 1, 1, 0]) (nd Tryd.f24 [1, 1, 1, 1, 1]) (by kernel_rfl) ?_
          refine R_region 9 (rg Tryd.f24 [1, 1, 1, 1, 0]) (by kernel_rfl) ?_
          have k21 : opsOk 63 (rg Tryd.f24 [1, 1, 1, 1, 0]) = true := by kernel_rfl
          refine P_op k21 (.v (.agg [.val (.int .i64 a1.Z), tl e_Reading default a1.Read])) (by kernel_rfl) ?_
          obtain ⟨v22, h23, hm⟩ := bind_s hm
          refine P_step k21 (obNv 4 (ref12_copied_o v22)) (obSh 4 (ref12_copied_o v22)) ((ref12_copied_x v22).sh 4) (by kernel_rfl) (Step_call (x := ref12_copied_x v22) (ob := ref12_copied_o v22) (f := 32) (args := [(.tmp 37)]) (fn := Tryd.f32) (ys := [.agg [.val (.int .i64 a1.Z), tl e_Reading default a1.Read]]) 4 (by kernel_rfl) (by kernel_rfl) (by kernel_rfl) (by kernel_rfl) (by kernel_rfl) (by kernel_rfl) rfl (ref12_copied_ok a1 v22 h23) (by kernel_rfl) (by kernel_rfl)) ?_
          refine P_step k21 ([(5, 0)]) ([(5, (0, .box 24 [.val (.int .i64 0), .emp]))]) (.v (.one (.bptr 5 0 0))) (by kernel_rfl) (Step_alloc 24 5 0 [.val (.int .i64 0), .emp] (by kernel_rfl) (by kernel_rfl) (by kernel_rfl)) ?_
          refine P_write k21 ([(5, (0, .box 24 [.val (.int .i64 v22.Z), .own 4 0 3 v22.Read.length]))]) (.undef) (by kernel_rfl) (Step_store_box 24 (.tmp 8) (.tmp 38) 5 0 0 24 [.val (.int .i64 0), .emp] (.agg [.val (.int .i64 v22.Z), .own 4 0 3 v22.Read.length]) [.val (.int .i64 v22.Z), .own 4 0 3 v22.Read.length] (by kernel_rfl) (by kernel_rfl) (by kernel_rfl) (by kernel_rfl) (by kernel_rfl) (by kernel_rfl) (by kernel_rfl) (by kernel_rfl)) ?_
          refine HOps_end (by kernel_rfl) ?_
          refine R_seq (nd Tryd.f24 [1, 1, 1, 1, 1, 0]) (nd Tryd.f24 [1, 1, 1, 1, 1, 1]) (by kernel_rfl) ?_
          refine R_seq (nd Tryd.f24 [1, 1, 1, 1, 1, 0, 0]) (nd Tryd.f24 [1, 1, 1, 1, 1, 0, 1]) (by kernel_rfl) ?_
          refine R_region 10 (rg Tryd.f24 [1, 1, 1, 1, 1, 0, 0]) (by kernel_rfl) ?_
          have k24 : opsOk 63 (rg Tryd.f24 [1, 1, 1, 1, 1, 0, 0]) = true := by kernel_rfl
          refine P_op k24 (.v (.one (.val (.int .i64 0)))) (by kernel_rfl) ?_
          refine HOps_end (by kernel_rfl) ?_
          obtain ⟨o36, h37, hm⟩ := bind_s hm
          refine R_loop0 (nd Tryd.f24 [1, 1, 1, 1, 1, 0, 1, 0, 0]) 0 (by kernel_rfl) FUEL (fun o => ref12_Merge_L2_T v22 o) o36 (HL_enter (ref12_Merge_L2_S a2 v22 0 v22.Read v22.Read.length) (by kernel_rfl) (by kernel_rfl) (ref12_Merge_L2_ok w A hg a2 v22 FUEL 0 v22.Read v22.Read.length o36 rfl h37)) ?_
          refine R_seq (nd Tryd.f24 [1, 1, 1, 1, 1, 1, 0]) (nd Tryd.f24 [1, 1, 1, 1, 1, 1, 1]) (by kernel_rfl) ?_
          refine R_region 15 (rg Tryd.f24 [1, 1, 1, 1, 1, 1, 0]) (by kernel_rfl) ?_
          have k38 : opsOk 63 (rg Tryd.f24 [1, 1, 1, 1, 1, 1, 0]) = true := by kernel_rfl
          refine P_op k38 (.v (.agg [.val (.int .i64 v22.Z), .own 4 0 3 o36.length])) (by kernel_rfl) ?_
          refine P_write k38 ([(3, (0, .box 24 [.val (.int .i64 v22.Z), .own 4 0 3 o36.length]))]) (.undef) (by kernel_rfl) (Step_store_box 24 (.tmp 4) (.tmp 62) 3 0 0 24 [.val (.int .i64 0), .emp] (.agg [.val (.int .i64 v22.Z), .own 4 0 3 o36.length]) [.val (.int .i64 v22.Z), .own 4 0 3 o36.length] (by kernel_rfl) (by kernel_rfl) (by kernel_rfl) (by kernel_rfl) (by kernel_rfl) (by kernel_rfl) (by kernel_rfl) (by kernel_rfl)) ?_
          refine P_op k38 (.v (.one (.val (.int .i64 0)))) (by kernel_rfl) ?_
          refine HOps_end (by kernel_rfl) ?_
          obtain rfl := Option.some.inj hm
          refine H_swap 4 0 ?_
          refine R_ret (by kernel_rfl) ?_
          exact ret_mk (by kernel_rfl) (by kernel_rfl)
      · refine R_region 7 (rg Tryd.f24 [1, 1, 1, 0, 0]) (by kernel_rfl) ?_
        have k16 : opsOk 63 (rg Tryd.f24 [1, 1, 1, 0, 0]) = true := by kernel_rfl
        refine P_op k16 (.v (.one (.bptr 1 0 0))) (by kernel_rfl) ?_
        refine P_op k16 (.v (.one (.val (.int .i64 a1.Z)))) (by kernel_rfl) ?_
        refine P_op k16 (.v (.one (.bptr 2 0 0))) (by kernel_rfl) ?_
        refine P_op k16 (.v (.one (.val (.int .i64 a2.Z)))) (by kernel_rfl) ?_
        refine P_op k16 (.v (.one (.val (.bool (a1.Z != a2.Z))))) (by kernel_rfl) ?_
        refine P_op k16 (.v (.one (.val (.bool (a1.Z != a2.Z))))) (by kernel_rfl) ?_
        refine HOps_bool 27 (a1.Z != a2.Z) (by kernel_rfl) (fun b17 => ?_) (fun b17 => ?_)
        · replace hm := bif_t b17 hm
          refine P_skip k16 (by kernel_rfl) ?_
          refine P_skip k16 (by kernel_rfl) ?_
          refine P_skip k16 (by kernel_rfl) ?_
          refine P_skip k16 (by kernel_rfl) ?_
          refine P_skip k16 (by kernel_rfl) ?_
          refine P_skip k16 (by kernel_rfl) ?_
          refine P_skip k16 (by kernel_rfl) ?_
          refine P_op k16 (.v (.one (.val (.bool true)))) (by kernel_rfl) ?_
          refine HOps_end (by kernel_rfl) ?_
          exact J_mk (true) hm (by kernel_rfl) (by kernel_rfl)
        · replace hm := bif_f b17 hm
          refine P_op k16 (.v (.one (.bptr 1 0 1))) (by kernel_rfl) ?_
          refine P_op k16 (.v (.one (tl e_Reading default a1.Read))) (by kernel_rfl) ?_
          refine P_op k16 (.v (.one (.val (.int .i64 ((a1.Read.length : Nat) : Int))))) (by kernel_rfl) ?_
          refine P_op k16 (.v (.one (.bptr 2 0 1))) (by kernel_rfl) ?_
          refine P_op k16 (.v (.one (tl e_Reading default a2.Read))) (by kernel_rfl) ?_
          refine P_op k16 (.v (.one (.val (.int .i64 ((a2.Read.length : Nat) : Int))))) (by kernel_rfl) ?_
          refine P_op k16 (.v (.one (.val (.bool (((a1.Read.length : Nat) : Int) != ((a2.Read.length : Nat) : Int)))))) (by kernel_rfl) ?_
          refine P_op k16 (.v (.one (.val (.bool (((a1.Read.length : Nat) : Int) != ((a2.Read.length : Nat) : Int)))))) (by kernel_rfl) ?_
          refine HOps_end (by kernel_rfl) ?_
          exact J_mk (((a1.Read.length : Nat) : Int) != ((a2.Read.length : Nat) : Int)) hm (by kernel_rfl) (by kernel_rfl)

end Saw
end Go.SL
