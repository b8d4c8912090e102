import Derived.Test.YtfpgdgmcmkileaaDoorRBase
import Derived.Test.YtfpgdgmcmkileaaDoorRB2
import Derived.Test.YtfpgdgmcmkileaaDoorRB1
import Derived.Test.YtfpgdgmcmkileaaDoorRB4
set_option linter.unusedVariables false
set_option linter.unusedSimpArgs false
namespace Go.SL
namespace Saw
open Go.Proofs
set_option maxHeartbeats 4000000

def ref12_floor_x (r : Int) : V := .v (.one (.val (.int .i64 r)))

def ref12_floor_o (r : Int) : List (Nat × (Nat × O)) := []

theorem ref12_floor_f (r : Int) : Frozen (ref12_floor_o r) := by
  intro i k o h
  unfold ref12_floor_o at h
  cases h

def ref12_floor_k1_S (x9 : Int) : St :=
  { slots := [(5, .v (.one (.val (.int .i64 x9))))], objs := [] }

set_option maxRecDepth 100000 in
theorem ref12_floor_ok (a1 : Int) (a2 : Int) (r : Int) (hm : ref12_floor a1 a2 = some r) : Ct Tryd.prog globs 39 [.one (.val (.int .i64 a1)), .one (.val (.int .i64 a2))] (ref12_floor_x r) (ref12_floor_o r) := by
  unfold ref12_floor at hm
  refine Ct_of_H (fn := Tryd.f39) (c := nd Tryd.f39 []) mixed (by kernel_rfl) (by kernel_rfl) (by kernel_rfl) fun w A hg => ?_
  show H ({ P := Tryd.prog, w0 := w, nt := 17, A := A, globs := globs, mixed := mixed, glob := hg } : Ctx) _ _ _
  refine R_seq (nd Tryd.f39 [0]) (nd Tryd.f39 [1]) (by kernel_rfl) ?_
  refine R_region 0 (rg Tryd.f39 [0]) (by kernel_rfl) ?_
  have k3 : opsOk 17 (rg Tryd.f39 [0]) = true := by kernel_rfl
  refine P_op k3 (.v (.one (.val (.int .i64 0)))) (by kernel_rfl) ?_
  refine HOps_end (by kernel_rfl) ?_
  refine R_seq (nd Tryd.f39 [1, 0]) (nd Tryd.f39 [1, 1]) (by kernel_rfl) ?_
  refine R_region 1 (rg Tryd.f39 [1, 0]) (by kernel_rfl) ?_
  have k4 : opsOk 17 (rg Tryd.f39 [1, 0]) = true := by kernel_rfl
  refine P_op k4 (.v (.one (.val (.int .i64 a1)))) (by kernel_rfl) ?_
  refine P_op k4 (.v (.one (.val (.int .i64 a2)))) (by kernel_rfl) ?_
  obtain ⟨g5, hm⟩ := bif_n hm
  refine P_opc k4 (.v (.one (.val (.int .i64 (w64 (Int.tdiv a1 a2)))))) (a2 ≠ (0 : Int)) (by kernel_rfl) (nz_of g5) ?_
  refine P_op k4 (.v (.one (.val (.int .i64 (w64 (Int.tdiv a1 a2)))))) (by kernel_rfl) ?_
  refine HOps_end (by kernel_rfl) ?_
  refine R_join (ι := Int) (nd Tryd.f39 [1, 1, 0]) (nd Tryd.f39 [1, 1, 1]) (by kernel_rfl) (fun p => ref12_floor_k1_S p) (fun p => ref12_floor_k1 p = some r) ?_ ?_
  · rintro x9 hm
    show H _ (ref12_floor_k1_S x9) (nd Tryd.f39 [1, 1, 1]) _
    refine R_seq (nd Tryd.f39 [1, 1, 1, 0]) (nd Tryd.f39 [1, 1, 1, 1]) (by kernel_rfl) ?_
    refine R_region 4 (rg Tryd.f39 [1, 1, 1, 0]) (by kernel_rfl) ?_
    have k10 : opsOk 17 (rg Tryd.f39 [1, 1, 1, 0]) = true := by kernel_rfl
    refine P_op k10 (.v (.one (.val (.int .i64 x9)))) (by kernel_rfl) ?_
    refine P_op k10 (.v (.one (.val (.int .i64 x9)))) (by kernel_rfl) ?_
    refine HOps_end (by kernel_rfl) ?_
    obtain rfl := Option.some.inj hm
    refine R_ret (by kernel_rfl) ?_
    exact ret_mk (by kernel_rfl) (by kernel_rfl)
  · refine R_seq (nd Tryd.f39 [1, 1, 0, 0]) (nd Tryd.f39 [1, 1, 0, 1]) (by kernel_rfl) ?_
    refine R_region 2 (rg Tryd.f39 [1, 1, 0, 0]) (by kernel_rfl) ?_
    have k6 : opsOk 17 (rg Tryd.f39 [1, 1, 0, 0]) = true := by kernel_rfl
    refine P_op k6 (.v (.one (.val (.int .i64 (w64 (Int.tdiv a1 a2)))))) (by kernel_rfl) ?_
    refine P_op k6 (.v (.one (.val (.int .i64 a2)))) (by kernel_rfl) ?_
    refine P_op k6 (.v (.one (.val (.int .i64 (w64 ((w64 (Int.tdiv a1 a2)) * a2)))))) (by kernel_rfl) ?_
    refine P_op k6 (.v (.one (.val (.int .i64 a1)))) (by kernel_rfl) ?_
    refine P_op k6 (.v (.one (.val (.bool (decide ((w64 ((w64 (Int.tdiv a1 a2)) * a2)) > a1)))))) (by kernel_rfl) ?_
    refine HOps_end (by kernel_rfl) ?_
    refine R_cond (.tmp 13) (nd Tryd.f39 [1, 1, 0, 1, 0]) (nd Tryd.f39 [1, 1, 0, 1, 1]) (by kernel_rfl) (decide ((w64 ((w64 (Int.tdiv a1 a2)) * a2)) > a1)) (by kernel_rfl) (fun b7 => ?_) (fun b7 => ?_)
    · replace hm := bif_t b7 hm
      refine R_region 3 (rg Tryd.f39 [1, 1, 0, 1, 0]) (by kernel_rfl) ?_
      have k8 : opsOk 17 (rg Tryd.f39 [1, 1, 0, 1, 0]) = true := by kernel_rfl
      refine P_op k8 (.v (.one (.val (.int .i64 (w64 (Int.tdiv a1 a2)))))) (by kernel_rfl) ?_
      refine P_op k8 (.v (.one (.val (.int .i64 (w64 ((w64 (Int.tdiv a1 a2)) - 1)))))) (by kernel_rfl) ?_
      refine P_op k8 (.v (.one (.val (.int .i64 (w64 ((w64 (Int.tdiv a1 a2)) - 1)))))) (by kernel_rfl) ?_
      refine HOps_end (by kernel_rfl) ?_
      exact J_mk (w64 ((w64 (Int.tdiv a1 a2)) - 1)) hm (by kernel_rfl) (by kernel_rfl)
    · replace hm := bif_f b7 hm
      refine R_skip (by kernel_rfl) ?_
      exact J_mk (w64 (Int.tdiv a1 a2)) hm (by kernel_rfl) (by kernel_rfl)

end Saw
end Go.SL

namespace Go.SL
namespace Saw
open Go.Proofs
set_option maxHeartbeats 4000000

def ref12_Repair_x (r : (List Point) × Int) : V := .tup [.one (.own 0 0 2 r.1.length), .one (.val (.int .i64 r.2))]

def ref12_Repair_o (r : (List Point) × Int) : List (Nat × (Nat × O)) := [(0, (0, .row 38 2 r.1.length (rowf e_Point default r.1)))]

theorem ref12_Repair_f (r : (List Point) × Int) : Frozen (ref12_Repair_o r) := by
  intro i k o h
  unfold ref12_Repair_o at h
  rw [look_cons] at h
  split at h
  · cases h; exact fun _ _ => rfl
  · cases h

def ref12_Repair_k3_S (a1 : Ring) (x23 : Int) (l43 : List Point) (l43n : Nat) : St :=
  { slots := [(2, .v (.one (.bptr 1 0 0))), (7, .v (.one (.val (.int .i64 ((a1.Read.length : Nat) : Int))))), (10, .v (.one (.own 1001 0 2 l43n))), (11, .v (.one (.val (.int .i64 x23))))], objs := [(1, (0, .box 24 [.val (.int .i64 a1.Z), tl e_Reading default a1.Read])), (1001, (0, .row 38 2 l43n (rowf e_Point default l43)))] }

def ref12_Repair_L2_S (a1 : Ring) (l22 : List Point) (l22n : Nat) (x23 : Int) : St :=
  { slots := [(2, .v (.one (.bptr 1 0 0))), (7, .v (.one (.val (.int .i64 ((a1.Read.length : Nat) : Int))))), (10, .v (.one (.own 1001 0 2 l22n))), (11, .v (.one (.val (.int .i64 x23))))], objs := [(1, (0, .box 24 [.val (.int .i64 a1.Z), tl e_Reading default a1.Read])), (1001, (0, .row 38 2 l22n (rowf e_Point default l22)))] }

def ref12_Repair_L2_T (l45 : List Point) : St :=
  { slots := [(10, .v (.one (.own 1001 0 2 l45.length)))], objs := [(1001, (0, .row 38 2 l45.length (rowf e_Point default l45)))] }

def ref12_Repair_k1_S (a1 : Ring) (x17 : Bool) : St :=
  { slots := [(2, .v (.one (.bptr 1 0 0))), (7, .v (.one (.val (.int .i64 ((a1.Read.length : Nat) : Int))))), (43, .v (.one (.val (.bool x17))))], objs := [(1, (0, .box 24 [.val (.int .i64 a1.Z), tl e_Reading default a1.Read]))] }

set_option maxRecDepth 100000 in
theorem ref12_Repair_L2_ok (w : World) (A : Nat → Prop) (hg : Globs globs w A) (a1 : Ring) : ∀ (n : Nat) (l22 : List Point) (l22n : Nat) (x23 : Int) (res : (List Point)), l22.length = l22n → ref12_Repair_L2 a1 n l22 x23 = some res → HL ({ P := Tryd.prog, w0 := w, nt := 127, A := A, globs := globs, mixed := mixed, glob := hg } : Ctx) (nd Tryd.f22 [1, 1, 1, 1, 1, 1, 0, 1, 0, 0]) (loopQ0 0 (fun o => ref12_Repair_L2_T o) res) n (ref12_Repair_L2_S a1 l22 l22n x23) := by
  intro n
  induction n with
  | zero =>
    intro l22 l22n x23 res hl0 hm
    cases hm
  | succ n ih =>
    intro l22 l22n x23 res hl0 hm
    subst hl0
    refine HL_succ ?_
    refine R_seq (nd Tryd.f22 [1, 1, 1, 1, 1, 1, 0, 1, 0, 0, 0]) (nd Tryd.f22 [1, 1, 1, 1, 1, 1, 0, 1, 0, 0, 1]) (by kernel_rfl) ?_
    refine R_seq (nd Tryd.f22 [1, 1, 1, 1, 1, 1, 0, 1, 0, 0, 0, 0]) (nd Tryd.f22 [1, 1, 1, 1, 1, 1, 0, 1, 0, 0, 0, 1]) (by kernel_rfl) ?_
    refine R_region 10 (rg Tryd.f22 [1, 1, 1, 1, 1, 1, 0, 1, 0, 0, 0, 0]) (by kernel_rfl) ?_
    have k24 : opsOk 127 (rg Tryd.f22 [1, 1, 1, 1, 1, 1, 0, 1, 0, 0, 0, 0]) = true := by kernel_rfl
    refine P_op k24 (.v (.one (.val (.int .i64 x23)))) (by kernel_rfl) ?_
    refine P_op k24 (.v (.one (.val (.int .i64 ((a1.Read.length : Nat) : Int))))) (by kernel_rfl) ?_
    refine P_op k24 (.v (.one (.val (.bool (decide (x23 < ((a1.Read.length : Nat) : Int))))))) (by kernel_rfl) ?_
    refine HOps_end (by kernel_rfl) ?_
    refine R_cond (.tmp 46) (nd Tryd.f22 [1, 1, 1, 1, 1, 1, 0, 1, 0, 0, 0, 1, 0]) (nd Tryd.f22 [1, 1, 1, 1, 1, 1, 0, 1, 0, 0, 0, 1, 1]) (by kernel_rfl) (decide (x23 < ((a1.Read.length : Nat) : Int))) (by kernel_rfl) (fun b25 => ?_) (fun b25 => ?_)
    · replace hm := bif_t b25 hm
      refine R_skip (by kernel_rfl) ?_
      refine R_join (ι := (List Point) × Nat) (nd Tryd.f22 [1, 1, 1, 1, 1, 1, 0, 1, 0, 0, 1, 0]) (nd Tryd.f22 [1, 1, 1, 1, 1, 1, 0, 1, 0, 0, 1, 1]) (by kernel_rfl) (fun p => ref12_Repair_k3_S a1 x23 p.1 p.2) (fun p => p.1.length = p.2 ∧ ref12_Repair_k3 x23 (ref12_Repair_L2 a1 n) p.1 = some res) ?_ ?_
      · rintro ⟨l43, l43n⟩ ⟨el43, hm⟩
        replace el43 : l43.length = l43n := el43
        subst el43
        show H _ (ref12_Repair_k3_S a1 x23 l43 l43.length) (nd Tryd.f22 [1, 1, 1, 1, 1, 1, 0, 1, 0, 0, 1, 1]) _
        refine R_region 11 (rg Tryd.f22 [1, 1, 1, 1, 1, 1, 0, 1, 0, 0, 1, 1]) (by kernel_rfl) ?_
        have k44 : opsOk 127 (rg Tryd.f22 [1, 1, 1, 1, 1, 1, 0, 1, 0, 0, 1, 1]) = true := by kernel_rfl
        refine P_op k44 (.v (.one (.val (.int .i64 x23)))) (by kernel_rfl) ?_
        refine P_op k44 (.v (.one (.val (.int .i64 (w64 (x23 + 1)))))) (by kernel_rfl) ?_
        refine P_op k44 (.v (.one (.val (.int .i64 (w64 (x23 + 1)))))) (by kernel_rfl) ?_
        refine HOps_end (by kernel_rfl) ?_
        exact HL_enter (ref12_Repair_L2_S a1 l43 l43.length (w64 (x23 + 1))) (by kernel_rfl) (by kernel_rfl) (ih l43 l43.length (w64 (x23 + 1)) _ rfl hm)
      · refine R_block 1 (nd Tryd.f22 [1, 1, 1, 1, 1, 1, 0, 1, 0, 0, 1, 0, 0]) (by kernel_rfl) ?_
        refine R_seq (nd Tryd.f22 [1, 1, 1, 1, 1, 1, 0, 1, 0, 0, 1, 0, 0, 0]) (nd Tryd.f22 [1, 1, 1, 1, 1, 1, 0, 1, 0, 0, 1, 0, 0, 1]) (by kernel_rfl) ?_
        refine R_seq (nd Tryd.f22 [1, 1, 1, 1, 1, 1, 0, 1, 0, 0, 1, 0, 0, 0, 0]) (nd Tryd.f22 [1, 1, 1, 1, 1, 1, 0, 1, 0, 0, 1, 0, 0, 0, 1]) (by kernel_rfl) ?_
        refine R_region 12 (rg Tryd.f22 [1, 1, 1, 1, 1, 1, 0, 1, 0, 0, 1, 0, 0, 0, 0]) (by kernel_rfl) ?_
        have k26 : opsOk 127 (rg Tryd.f22 [1, 1, 1, 1, 1, 1, 0, 1, 0, 0, 1, 0, 0, 0, 0]) = true := by kernel_rfl
        refine P_op k26 (.v (.one (.bptr 1 0 1))) (by kernel_rfl) ?_
        refine P_op k26 (.v (.one (tl e_Reading default a1.Read))) (by kernel_rfl) ?_
        refine P_op k26 (.v (.one (.val (.int .i64 x23)))) (by kernel_rfl) ?_
        obtain ⟨g27, hm⟩ := bif_n hm
        refine P_opc k26 (.v (.one (.lptr (e_Reading (a1.Read.getD x23.toNat default))))) (0 ≤ x23 ∧ x23 < ((a1.Read.length : Nat) : Int)) (by kernel_rfl) (inb_of g27) ?_
        refine P_op k26 (.v (.one (.lptr ((e_Reading (a1.Read.getD x23.toNat default)).drop 2)))) (by kernel_rfl) ?_
        refine P_op k26 (.v (.one (.val (.bool ((a1.Read.getD x23.toNat default).Ok))))) (by kernel_rfl) ?_
        refine HOps_end (by kernel_rfl) ?_
        refine R_cond (.tmp 54) (nd Tryd.f22 [1, 1, 1, 1, 1, 1, 0, 1, 0, 0, 1, 0, 0, 0, 1, 0]) (nd Tryd.f22 [1, 1, 1, 1, 1, 1, 0, 1, 0, 0, 1, 0, 0, 0, 1, 1]) (by kernel_rfl) ((a1.Read.getD x23.toNat default).Ok) (by kernel_rfl) (fun b28 => ?_) (fun b28 => ?_)
        · replace hm := bif_t b28 hm
          refine R_seq (nd Tryd.f22 [1, 1, 1, 1, 1, 1, 0, 1, 0, 0, 1, 0, 0, 0, 1, 0, 0]) (nd Tryd.f22 [1, 1, 1, 1, 1, 1, 0, 1, 0, 0, 1, 0, 0, 0, 1, 0, 1]) (by kernel_rfl) ?_
          refine R_region 13 (rg Tryd.f22 [1, 1, 1, 1, 1, 1, 0, 1, 0, 0, 1, 0, 0, 0, 1, 0, 0]) (by kernel_rfl) ?_
          have k29 : opsOk 127 (rg Tryd.f22 [1, 1, 1, 1, 1, 1, 0, 1, 0, 0, 1, 0, 0, 0, 1, 0, 0]) = true := by kernel_rfl
          refine P_op k29 (.v (.one (.own 1001 0 2 l22.length))) (by kernel_rfl) ?_
          refine P_op k29 (.v (.one (.bptr 1 0 1))) (by kernel_rfl) ?_
          refine P_op k29 (.v (.one (tl e_Reading default a1.Read))) (by kernel_rfl) ?_
          refine P_op k29 (.v (.one (.val (.int .i64 x23)))) (by kernel_rfl) ?_
          refine P_opc k29 (.v (.one (.lptr (e_Reading (a1.Read.getD x23.toNat default))))) (0 ≤ x23 ∧ x23 < ((a1.Read.length : Nat) : Int)) (by kernel_rfl) (inb_of g27) ?_
          refine P_op k29 (.v (.one (.lptr (e_Reading (a1.Read.getD x23.toNat default))))) (by kernel_rfl) ?_
          refine P_op k29 (.v (.agg [.val (.int .i64 (((a1.Read.getD x23.toNat default).P).X)), .val (.int .i64 (((a1.Read.getD x23.toNat default).P).Y))])) (by kernel_rfl) ?_
          refine P_step k29 ([(2, 0)]) ([(2, (0, .row 38 2 1 (rowf e_Point default ([(a1.Read.getD x23.toNat default).P] : List Point))))]) (.v (.one (.own 2 0 2 1))) (by kernel_rfl) (Step_lit 34 38 1 #[(0, (.tmp 61))] 2 0 Tryd.t38 [.val (.int .i64 0), .val (.int .i64 0)] [(0, .agg [.val (.int .i64 (((a1.Read.getD x23.toNat default).P).X)), .val (.int .i64 (((a1.Read.getD x23.toNat default).P).Y))])] [.val (.int .i64 (((a1.Read.getD x23.toNat default).P).X)), .val (.int .i64 (((a1.Read.getD x23.toNat default).P).Y))] (by kernel_rfl) (by kernel_rfl) (by kernel_rfl) (by kernel_rfl) (by kernel_rfl) (by kernel_rfl) (by kernel_rfl) (by kernel_rfl) (by kernel_rfl) (by kernel_rfl) (by kernel_rfl) (rowf e_Point default ([(a1.Read.getD x23.toNat default).P] : List Point)) (lit_succ (n := 0) lit_zero (by kernel_rfl))) ?_
          obtain ⟨g30, hm⟩ := bif_n hm
          refine P_step k29 ([(1001, 1)]) ([(1001, (1, .row 38 2 (l22.length + 1) (rowf e_Point default (l22 ++ ([(a1.Read.getD x23.toNat default).P] : List Point)))))]) (.v (.one (.own 1001 1 2 (l22.length + 1)))) (by kernel_rfl) (Step_append (.tmp 55) (.tmp 62) 34 38 1001 0 1 l22.length l22.length 1 Tryd.t38 (.agg #[.int .i64 0, .int .i64 0]) (rowf e_Point default l22) (rowf e_Point default ([(a1.Read.getD x23.toNat default).P] : List Point)) (rowf e_Point default (l22 ++ ([(a1.Read.getD x23.toNat default).P] : List Point))) (.one (.own 2 0 2 1)) (1 ≤ 1) (by kernel_rfl) (by kernel_rfl) (by kernel_rfl) (by kernel_rfl) (by kernel_rfl) (by kernel_rfl) (by kernel_rfl) (by kernel_rfl) (by kernel_rfl) (by kernel_rfl) (by kernel_rfl) (Nat.le_refl _) (fun _ _ => by kernel_rfl) (Nat.le_refl _) (room_of g30) (rowf_app e_Point default l22 ([(a1.Read.getD x23.toNat default).P] : List Point) l22.length 1 rfl rfl)) ?_
          refine P_op k29 (.v (.one (.own 1001 1 2 (l22.length + 1)))) (by kernel_rfl) ?_
          refine HOps_end (by kernel_rfl) ?_
          refine R_exit 1 (by kernel_rfl) ?_
          exact J_mk ((l22 ++ ([(a1.Read.getD x23.toNat default).P] : List Point)), (l22.length + 1)) ⟨(len_app rfl rfl), hm⟩ (by kernel_rfl) (by kernel_rfl)
        · replace hm := bif_f b28 hm
          refine R_skip (by kernel_rfl) ?_
          refine R_seq (nd Tryd.f22 [1, 1, 1, 1, 1, 1, 0, 1, 0, 0, 1, 0, 0, 1, 0]) (nd Tryd.f22 [1, 1, 1, 1, 1, 1, 0, 1, 0, 0, 1, 0, 0, 1, 1]) (by kernel_rfl) ?_
          obtain ⟨v31, h32, hm⟩ := bind_s hm
          obtain ⟨v33, h34, hm⟩ := bind_s hm
          refine R_draw 14 (rg Tryd.f22 [1, 1, 1, 1, 1, 1, 0, 1, 0, 0, 1, 0, 0, 1, 0]) (by kernel_rfl) [⟨true, .v (.one (.bptr 1 0 1)), [], [], [2], []⟩, ⟨true, .v (.one (tl e_Reading default a1.Read)), [], [], [64], [1]⟩, ⟨true, .v (.one (.val (.int .i64 x23))), [], [], [11], []⟩, ⟨true, (ref12_next_x v31).sh 3, obNv 3 (ref12_next_o v31), obSh 3 (ref12_next_o v31), [65, 66], []⟩, ⟨true, .v (.one (.bptr 1 0 1)), [], [], [2], []⟩, ⟨true, .v (.one (tl e_Reading default a1.Read)), [], [], [68], [1]⟩, ⟨true, .v (.one (.val (.int .i64 x23))), [], [], [11], []⟩, ⟨true, (ref12_next_x v33).sh 3, obNv 3 (ref12_next_o v33), obSh 3 (ref12_next_o v33), [69, 70], []⟩, ⟨true, .v (.one (.val (.int .i64 v31))), [], [], [67], []⟩, ⟨true, .v (.one (.val (.int .i64 v33))), [], [], [71], []⟩] [0, 1, 0, 7, 0, 16, 0, 127, 255, 511] (by kernel_rfl) (by kernel_rfl) (by kernel_rfl) (by kernel_rfl) (by kernel_rfl) (by kernel_rfl) ?_ ?_
          · refine A_pure (.v (.one (.bptr 1 0 1))) [2] [] (True) (by kernel_rfl) trivial ?_
            refine A_pure (.v (.one (tl e_Reading default a1.Read))) [64] [1] (True) (by kernel_rfl) trivial ?_
            refine A_pure (.v (.one (.val (.int .i64 x23)))) [11] [] (True) (by kernel_rfl) trivial ?_
            refine A_run ⟨true, (ref12_next_x v31).sh 3, obNv 3 (ref12_next_o v31), obSh 3 (ref12_next_o v31), [65, 66], []⟩ (by kernel_rfl) (Step_call (x := ref12_next_x v31) (ob := ref12_next_o v31) (f := 33) (args := [(.tmp 65), (.tmp 66), (.const (.int .i64 (-1)))]) (fn := Tryd.f33) (ys := [.one (tl e_Reading default a1.Read), .one (.val (.int .i64 x23)), .one (.val (.int .i64 (-1)))]) 3 (by kernel_rfl) (by kernel_rfl) (by kernel_rfl) (by kernel_rfl) (by kernel_rfl) (by kernel_rfl) rfl (ref12_next_ok a1.Read x23 (-1) v31 h32) (by kernel_rfl) (by kernel_rfl)) ?_
            refine A_pure (.v (.one (.bptr 1 0 1))) [2] [] (True) (by kernel_rfl) trivial ?_
            refine A_pure (.v (.one (tl e_Reading default a1.Read))) [68] [1] (True) (by kernel_rfl) trivial ?_
            refine A_pure (.v (.one (.val (.int .i64 x23)))) [11] [] (True) (by kernel_rfl) trivial ?_
            refine A_run ⟨true, (ref12_next_x v33).sh 3, obNv 3 (ref12_next_o v33), obSh 3 (ref12_next_o v33), [69, 70], []⟩ (by kernel_rfl) (Step_call (x := ref12_next_x v33) (ob := ref12_next_o v33) (f := 33) (args := [(.tmp 69), (.tmp 70), (.const (.int .i64 1))]) (fn := Tryd.f33) (ys := [.one (tl e_Reading default a1.Read), .one (.val (.int .i64 x23)), .one (.val (.int .i64 1))]) 3 (by kernel_rfl) (by kernel_rfl) (by kernel_rfl) (by kernel_rfl) (by kernel_rfl) (by kernel_rfl) rfl (ref12_next_ok a1.Read x23 1 v33 h34) (by kernel_rfl) (by kernel_rfl)) ?_
            refine A_pure (.v (.one (.val (.int .i64 v31)))) [67] [] (True) (by kernel_rfl) trivial ?_
            refine A_pure (.v (.one (.val (.int .i64 v33)))) [71] [] (True) (by kernel_rfl) trivial ?_
            exact A_end
          · refine R_seq (nd Tryd.f22 [1, 1, 1, 1, 1, 1, 0, 1, 0, 0, 1, 0, 0, 1, 1, 0]) (nd Tryd.f22 [1, 1, 1, 1, 1, 1, 0, 1, 0, 0, 1, 0, 0, 1, 1, 1]) (by kernel_rfl) ?_
            obtain ⟨g35, hm⟩ := bif_n hm
            refine R_draw 15 (rg Tryd.f22 [1, 1, 1, 1, 1, 1, 0, 1, 0, 0, 1, 0, 0, 1, 1, 0]) (by kernel_rfl) [⟨true, .v (.one (.val (.int .i64 x23))), [], [], [11], []⟩, ⟨true, .v (.one (.val (.int .i64 v31))), [], [], [12], []⟩, ⟨true, .v (.one (.val (.int .i64 (w64 (x23 - v31))))), [], [], [72, 73], []⟩, ⟨true, .v (.one (.val (.int .i64 ((a1.Read.length : Nat) : Int)))), [], [], [7], []⟩, ⟨true, .v (.one (.val (.int .i64 (w64 ((w64 (x23 - v31)) + ((a1.Read.length : Nat) : Int)))))), [], [], [74, 75], []⟩, ⟨true, .v (.one (.val (.int .i64 ((a1.Read.length : Nat) : Int)))), [], [], [7], []⟩, ⟨true, .v (.one (.val (.int .i64 (Int.tmod (w64 ((w64 (x23 - v31)) + ((a1.Read.length : Nat) : Int))) ((a1.Read.length : Nat) : Int))))), [], [], [76, 77], []⟩, ⟨true, .v (.one (.val (.int .i64 v33))), [], [], [13], []⟩, ⟨true, .v (.one (.val (.int .i64 v31))), [], [], [12], []⟩, ⟨true, .v (.one (.val (.int .i64 (w64 (v33 - v31))))), [], [], [79, 80], []⟩, ⟨true, .v (.one (.val (.int .i64 ((a1.Read.length : Nat) : Int)))), [], [], [7], []⟩, ⟨true, .v (.one (.val (.int .i64 (w64 ((w64 (v33 - v31)) + ((a1.Read.length : Nat) : Int)))))), [], [], [81, 82], []⟩, ⟨true, .v (.one (.val (.int .i64 ((a1.Read.length : Nat) : Int)))), [], [], [7], []⟩, ⟨true, .v (.one (.val (.int .i64 (Int.tmod (w64 ((w64 (v33 - v31)) + ((a1.Read.length : Nat) : Int))) ((a1.Read.length : Nat) : Int))))), [], [], [83, 84], []⟩, ⟨true, .v (.one (.val (.int .i64 (Int.tmod (w64 ((w64 (x23 - v31)) + ((a1.Read.length : Nat) : Int))) ((a1.Read.length : Nat) : Int))))), [], [], [78], []⟩, ⟨true, .v (.one (.val (.int .i64 (Int.tmod (w64 ((w64 (v33 - v31)) + ((a1.Read.length : Nat) : Int))) ((a1.Read.length : Nat) : Int))))), [], [], [85], []⟩] [0, 0, 3, 0, 15, 0, 63, 0, 0, 384, 0, 1920, 0, 8064, 127, 32767] (by kernel_rfl) (by kernel_rfl) (by kernel_rfl) (by kernel_rfl) (by kernel_rfl) (by kernel_rfl) ?_ ?_
            · refine A_pure (.v (.one (.val (.int .i64 x23)))) [11] [] (True) (by kernel_rfl) trivial ?_
              refine A_pure (.v (.one (.val (.int .i64 v31)))) [12] [] (True) (by kernel_rfl) trivial ?_
              refine A_pure (.v (.one (.val (.int .i64 (w64 (x23 - v31)))))) [72, 73] [] (True) (by kernel_rfl) trivial ?_
              refine A_pure (.v (.one (.val (.int .i64 ((a1.Read.length : Nat) : Int))))) [7] [] (True) (by kernel_rfl) trivial ?_
              refine A_pure (.v (.one (.val (.int .i64 (w64 ((w64 (x23 - v31)) + ((a1.Read.length : Nat) : Int))))))) [74, 75] [] (True) (by kernel_rfl) trivial ?_
              refine A_pure (.v (.one (.val (.int .i64 ((a1.Read.length : Nat) : Int))))) [7] [] (True) (by kernel_rfl) trivial ?_
              refine A_pure (.v (.one (.val (.int .i64 (Int.tmod (w64 ((w64 (x23 - v31)) + ((a1.Read.length : Nat) : Int))) ((a1.Read.length : Nat) : Int)))))) [76, 77] [] (((a1.Read.length : Nat) : Int) ≠ (0 : Int)) (by kernel_rfl) (nz_of g35) ?_
              refine A_pure (.v (.one (.val (.int .i64 v33)))) [13] [] (True) (by kernel_rfl) trivial ?_
              refine A_pure (.v (.one (.val (.int .i64 v31)))) [12] [] (True) (by kernel_rfl) trivial ?_
              refine A_pure (.v (.one (.val (.int .i64 (w64 (v33 - v31)))))) [79, 80] [] (True) (by kernel_rfl) trivial ?_
              refine A_pure (.v (.one (.val (.int .i64 ((a1.Read.length : Nat) : Int))))) [7] [] (True) (by kernel_rfl) trivial ?_
              refine A_pure (.v (.one (.val (.int .i64 (w64 ((w64 (v33 - v31)) + ((a1.Read.length : Nat) : Int))))))) [81, 82] [] (True) (by kernel_rfl) trivial ?_
              refine A_pure (.v (.one (.val (.int .i64 ((a1.Read.length : Nat) : Int))))) [7] [] (True) (by kernel_rfl) trivial ?_
              refine A_pure (.v (.one (.val (.int .i64 (Int.tmod (w64 ((w64 (v33 - v31)) + ((a1.Read.length : Nat) : Int))) ((a1.Read.length : Nat) : Int)))))) [83, 84] [] (((a1.Read.length : Nat) : Int) ≠ (0 : Int)) (by kernel_rfl) (nz_of g35) ?_
              refine A_pure (.v (.one (.val (.int .i64 (Int.tmod (w64 ((w64 (x23 - v31)) + ((a1.Read.length : Nat) : Int))) ((a1.Read.length : Nat) : Int)))))) [78] [] (True) (by kernel_rfl) trivial ?_
              refine A_pure (.v (.one (.val (.int .i64 (Int.tmod (w64 ((w64 (v33 - v31)) + ((a1.Read.length : Nat) : Int))) ((a1.Read.length : Nat) : Int)))))) [85] [] (True) (by kernel_rfl) trivial ?_
              exact A_end
            · refine R_seq (nd Tryd.f22 [1, 1, 1, 1, 1, 1, 0, 1, 0, 0, 1, 0, 0, 1, 1, 1, 0]) (nd Tryd.f22 [1, 1, 1, 1, 1, 1, 0, 1, 0, 0, 1, 0, 0, 1, 1, 1, 1]) (by kernel_rfl) ?_
              obtain ⟨g36, hm⟩ := bif_n hm
              obtain ⟨g37, hm⟩ := bif_n hm
              refine R_draw 16 (rg Tryd.f22 [1, 1, 1, 1, 1, 1, 0, 1, 0, 0, 1, 0, 0, 1, 1, 1, 0]) (by kernel_rfl) [⟨true, .v (.one (.bptr 1 0 1)), [], [], [2], []⟩, ⟨true, .v (.one (tl e_Reading default a1.Read)), [], [], [86], [1]⟩, ⟨true, .v (.one (.val (.int .i64 v31))), [], [], [12], []⟩, ⟨true, .v (.one (.lptr (e_Reading (a1.Read.getD v31.toNat default)))), [], [], [87, 88], []⟩, ⟨true, .v (.one (.lptr (e_Reading (a1.Read.getD v31.toNat default)))), [], [], [89], []⟩, ⟨true, .v (.agg [.val (.int .i64 (((a1.Read.getD v31.toNat default).P).X)), .val (.int .i64 (((a1.Read.getD v31.toNat default).P).Y))]), [], [], [90], []⟩, ⟨true, .v (.one (.bptr 1 0 1)), [], [], [2], []⟩, ⟨true, .v (.one (tl e_Reading default a1.Read)), [], [], [92], [1]⟩, ⟨true, .v (.one (.val (.int .i64 v33))), [], [], [13], []⟩, ⟨true, .v (.one (.lptr (e_Reading (a1.Read.getD v33.toNat default)))), [], [], [93, 94], []⟩, ⟨true, .v (.one (.lptr (e_Reading (a1.Read.getD v33.toNat default)))), [], [], [95], []⟩, ⟨true, .v (.agg [.val (.int .i64 (((a1.Read.getD v33.toNat default).P).X)), .val (.int .i64 (((a1.Read.getD v33.toNat default).P).Y))]), [], [], [96], []⟩, ⟨true, .v (.one (.bptr 3 0 0)), [(3, 0)], [(3, (0, .box 38 [.val (.int .i64 0), .val (.int .i64 0)]))], [], []⟩, ⟨true, .v (.one (.bptr 4 0 0)), [(4, 0)], [(4, (0, .box 38 [.val (.int .i64 0), .val (.int .i64 0)]))], [], []⟩, ⟨true, .undef, [], [(3, (0, .box 38 [.val (.int .i64 (((a1.Read.getD v31.toNat default).P).X)), .val (.int .i64 (((a1.Read.getD v31.toNat default).P).Y))]))], [16, 91], [3]⟩, ⟨true, .undef, [], [(4, (0, .box 38 [.val (.int .i64 (((a1.Read.getD v33.toNat default).P).X)), .val (.int .i64 (((a1.Read.getD v33.toNat default).P).Y))]))], [17, 97], [4]⟩] [0, 1, 0, 7, 15, 31, 0, 64, 0, 448, 960, 1984, 0, 0, 12351, 32767] (by kernel_rfl) (by kernel_rfl) (by kernel_rfl) (by kernel_rfl) (by kernel_rfl) (by kernel_rfl) ?_ ?_
              · refine A_pure (.v (.one (.bptr 1 0 1))) [2] [] (True) (by kernel_rfl) trivial ?_
                refine A_pure (.v (.one (tl e_Reading default a1.Read))) [86] [1] (True) (by kernel_rfl) trivial ?_
                refine A_pure (.v (.one (.val (.int .i64 v31)))) [12] [] (True) (by kernel_rfl) trivial ?_
                refine A_pure (.v (.one (.lptr (e_Reading (a1.Read.getD v31.toNat default))))) [87, 88] [] (0 ≤ v31 ∧ v31 < ((a1.Read.length : Nat) : Int)) (by kernel_rfl) (inb_of g36) ?_
                refine A_pure (.v (.one (.lptr (e_Reading (a1.Read.getD v31.toNat default))))) [89] [] (True) (by kernel_rfl) trivial ?_
                refine A_pure (.v (.agg [.val (.int .i64 (((a1.Read.getD v31.toNat default).P).X)), .val (.int .i64 (((a1.Read.getD v31.toNat default).P).Y))])) [90] [] (True) (by kernel_rfl) trivial ?_
                refine A_pure (.v (.one (.bptr 1 0 1))) [2] [] (True) (by kernel_rfl) trivial ?_
                refine A_pure (.v (.one (tl e_Reading default a1.Read))) [92] [1] (True) (by kernel_rfl) trivial ?_
                refine A_pure (.v (.one (.val (.int .i64 v33)))) [13] [] (True) (by kernel_rfl) trivial ?_
                refine A_pure (.v (.one (.lptr (e_Reading (a1.Read.getD v33.toNat default))))) [93, 94] [] (0 ≤ v33 ∧ v33 < ((a1.Read.length : Nat) : Int)) (by kernel_rfl) (inb_of g37) ?_
                refine A_pure (.v (.one (.lptr (e_Reading (a1.Read.getD v33.toNat default))))) [95] [] (True) (by kernel_rfl) trivial ?_
                refine A_pure (.v (.agg [.val (.int .i64 (((a1.Read.getD v33.toNat default).P).X)), .val (.int .i64 (((a1.Read.getD v33.toNat default).P).Y))])) [96] [] (True) (by kernel_rfl) trivial ?_
                refine A_run ⟨true, .v (.one (.bptr 3 0 0)), [(3, 0)], [(3, (0, .box 38 [.val (.int .i64 0), .val (.int .i64 0)]))], [], []⟩ (by kernel_rfl) (Step_alloc 38 3 0 [.val (.int .i64 0), .val (.int .i64 0)] (by kernel_rfl) (by kernel_rfl) (by kernel_rfl)) ?_
                refine A_run ⟨true, .v (.one (.bptr 4 0 0)), [(4, 0)], [(4, (0, .box 38 [.val (.int .i64 0), .val (.int .i64 0)]))], [], []⟩ (by kernel_rfl) (Step_alloc 38 4 0 [.val (.int .i64 0), .val (.int .i64 0)] (by kernel_rfl) (by kernel_rfl) (by kernel_rfl)) ?_
                refine A_run ⟨true, .undef, [], [(3, (0, .box 38 [.val (.int .i64 (((a1.Read.getD v31.toNat default).P).X)), .val (.int .i64 (((a1.Read.getD v31.toNat default).P).Y))]))], [16, 91], [3]⟩ (by kernel_rfl) (Step_store_box 38 (.tmp 16) (.tmp 91) 3 0 0 38 [.val (.int .i64 0), .val (.int .i64 0)] (.agg [.val (.int .i64 (((a1.Read.getD v31.toNat default).P).X)), .val (.int .i64 (((a1.Read.getD v31.toNat default).P).Y))]) [.val (.int .i64 (((a1.Read.getD v31.toNat default).P).X)), .val (.int .i64 (((a1.Read.getD v31.toNat default).P).Y))] (by kernel_rfl) (by kernel_rfl) (by kernel_rfl) (by kernel_rfl) (by kernel_rfl) (by kernel_rfl) (by kernel_rfl) (by kernel_rfl)) ?_
                refine A_run ⟨true, .undef, [], [(4, (0, .box 38 [.val (.int .i64 (((a1.Read.getD v33.toNat default).P).X)), .val (.int .i64 (((a1.Read.getD v33.toNat default).P).Y))]))], [17, 97], [4]⟩ (by kernel_rfl) (Step_store_box 38 (.tmp 17) (.tmp 97) 4 0 0 38 [.val (.int .i64 0), .val (.int .i64 0)] (.agg [.val (.int .i64 (((a1.Read.getD v33.toNat default).P).X)), .val (.int .i64 (((a1.Read.getD v33.toNat default).P).Y))]) [.val (.int .i64 (((a1.Read.getD v33.toNat default).P).X)), .val (.int .i64 (((a1.Read.getD v33.toNat default).P).Y))] (by kernel_rfl) (by kernel_rfl) (by kernel_rfl) (by kernel_rfl) (by kernel_rfl) (by kernel_rfl) (by kernel_rfl) (by kernel_rfl)) ?_
                exact A_end
              · obtain ⟨v38, h39, hm⟩ := bind_s hm
                obtain ⟨v40, h41, hm⟩ := bind_s hm
                obtain ⟨g42, hm⟩ := bif_n hm
                refine R_draw 17 (rg Tryd.f22 [1, 1, 1, 1, 1, 1, 0, 1, 0, 0, 1, 0, 0, 1, 1, 1, 1]) (by kernel_rfl) [⟨true, .v (.one (.own 1001 0 2 l22.length)), [], [], [10], []⟩, ⟨true, .v (.one (.bptr 3 0 0)), [], [], [16], []⟩, ⟨true, .v (.one (.val (.int .i64 (((a1.Read.getD v31.toNat default).P).X)))), [], [], [99], [3]⟩, ⟨true, .v (.one (.bptr 4 0 0)), [], [], [17], []⟩, ⟨true, .v (.one (.val (.int .i64 (((a1.Read.getD v33.toNat default).P).X)))), [], [], [101], [4]⟩, ⟨true, .v (.one (.bptr 3 0 0)), [], [], [16], []⟩, ⟨true, .v (.one (.val (.int .i64 (((a1.Read.getD v31.toNat default).P).X)))), [], [], [103], [3]⟩, ⟨true, .v (.one (.val (.int .i64 (w64 ((((a1.Read.getD v33.toNat default).P).X) - (((a1.Read.getD v31.toNat default).P).X)))))), [], [], [102, 104], []⟩, ⟨true, .v (.one (.val (.int .i64 (Int.tmod (w64 ((w64 (x23 - v31)) + ((a1.Read.length : Nat) : Int))) ((a1.Read.length : Nat) : Int))))), [], [], [14], []⟩, ⟨true, .v (.one (.val (.int .i64 (w64 ((w64 ((((a1.Read.getD v33.toNat default).P).X) - (((a1.Read.getD v31.toNat default).P).X))) * (Int.tmod (w64 ((w64 (x23 - v31)) + ((a1.Read.length : Nat) : Int))) ((a1.Read.length : Nat) : Int))))))), [], [], [105, 106], []⟩, ⟨true, .v (.one (.val (.int .i64 (Int.tmod (w64 ((w64 (v33 - v31)) + ((a1.Read.length : Nat) : Int))) ((a1.Read.length : Nat) : Int))))), [], [], [15], []⟩, ⟨true, (ref12_floor_x v38).sh 5, obNv 5 (ref12_floor_o v38), obSh 5 (ref12_floor_o v38), [107, 108], []⟩, ⟨true, .v (.one (.val (.int .i64 (w64 ((((a1.Read.getD v31.toNat default).P).X) + v38))))), [], [], [100, 109], []⟩, ⟨true, .v (.one (.bptr 3 0 1)), [], [], [16], []⟩, ⟨true, .v (.one (.val (.int .i64 (((a1.Read.getD v31.toNat default).P).Y)))), [], [], [111], [3]⟩, ⟨true, .v (.one (.bptr 4 0 1)), [], [], [17], []⟩, ⟨true, .v (.one (.val (.int .i64 (((a1.Read.getD v33.toNat default).P).Y)))), [], [], [113], [4]⟩, ⟨true, .v (.one (.bptr 3 0 1)), [], [], [16], []⟩, ⟨true, .v (.one (.val (.int .i64 (((a1.Read.getD v31.toNat default).P).Y)))), [], [], [115], [3]⟩, ⟨true, .v (.one (.val (.int .i64 (w64 ((((a1.Read.getD v33.toNat default).P).Y) - (((a1.Read.getD v31.toNat default).P).Y)))))), [], [], [114, 116], []⟩, ⟨true, .v (.one (.val (.int .i64 (Int.tmod (w64 ((w64 (x23 - v31)) + ((a1.Read.length : Nat) : Int))) ((a1.Read.length : Nat) : Int))))), [], [], [14], []⟩, ⟨true, .v (.one (.val (.int .i64 (w64 ((w64 ((((a1.Read.getD v33.toNat default).P).Y) - (((a1.Read.getD v31.toNat default).P).Y))) * (Int.tmod (w64 ((w64 (x23 - v31)) + ((a1.Read.length : Nat) : Int))) ((a1.Read.length : Nat) : Int))))))), [], [], [117, 118], []⟩, ⟨true, .v (.one (.val (.int .i64 (Int.tmod (w64 ((w64 (v33 - v31)) + ((a1.Read.length : Nat) : Int))) ((a1.Read.length : Nat) : Int))))), [], [], [15], []⟩, ⟨true, (ref12_floor_x v40).sh 5, obNv 5 (ref12_floor_o v40), obSh 5 (ref12_floor_o v40), [119, 120], []⟩, ⟨true, .v (.one (.val (.int .i64 (w64 ((((a1.Read.getD v31.toNat default).P).Y) + v40))))), [], [], [112, 121], []⟩, ⟨true, .v (.agg [.val (.int .i64 (w64 ((((a1.Read.getD v31.toNat default).P).X) + v38))), .val (.int .i64 (w64 ((((a1.Read.getD v31.toNat default).P).Y) + v40)))]), [], [], [110, 122], []⟩, ⟨true, .v (.one (.own 5 0 2 1)), [(5, 0)], [(5, (0, .row 38 2 1 (rowf e_Point default ([(Point.mk (w64 ((((a1.Read.getD v31.toNat default).P).X) + v38)) (w64 ((((a1.Read.getD v31.toNat default).P).Y) + v40)))] : List Point))))], [123], []⟩, ⟨true, .v (.one (.own 1001 1 2 (l22.length + 1))), [(1001, 1)], [(1001, (1, .row 38 2 (l22.length + 1) (rowf e_Point default (l22 ++ ([(Point.mk (w64 ((((a1.Read.getD v31.toNat default).P).X) + v38)) (w64 ((((a1.Read.getD v31.toNat default).P).Y) + v40)))] : List Point)))))], [98, 124], [5, 1001]⟩, ⟨true, .v (.one (.own 1001 1 2 (l22.length + 1))), [], [], [125], []⟩] [0, 0, 2, 0, 8, 0, 32, 120, 0, 504, 0, 2040, 4094, 0, 8192, 0, 32768, 0, 131072, 491520, 0, 2064384, 0, 8359928, 16773112, 33554430, 67108862, 134217727, 268435455] (by kernel_rfl) (by kernel_rfl) (by kernel_rfl) (by kernel_rfl) (by kernel_rfl) (by kernel_rfl) ?_ ?_
                · refine A_pure (.v (.one (.own 1001 0 2 l22.length))) [10] [] (True) (by kernel_rfl) trivial ?_
                  refine A_pure (.v (.one (.bptr 3 0 0))) [16] [] (True) (by kernel_rfl) trivial ?_
                  refine A_pure (.v (.one (.val (.int .i64 (((a1.Read.getD v31.toNat default).P).X))))) [99] [3] (True) (by kernel_rfl) trivial ?_
                  refine A_pure (.v (.one (.bptr 4 0 0))) [17] [] (True) (by kernel_rfl) trivial ?_
                  refine A_pure (.v (.one (.val (.int .i64 (((a1.Read.getD v33.toNat default).P).X))))) [101] [4] (True) (by kernel_rfl) trivial ?_
                  refine A_pure (.v (.one (.bptr 3 0 0))) [16] [] (True) (by kernel_rfl) trivial ?_
                  refine A_pure (.v (.one (.val (.int .i64 (((a1.Read.getD v31.toNat default).P).X))))) [103] [3] (True) (by kernel_rfl) trivial ?_
                  refine A_pure (.v (.one (.val (.int .i64 (w64 ((((a1.Read.getD v33.toNat default).P).X) - (((a1.Read.getD v31.toNat default).P).X))))))) [102, 104] [] (True) (by kernel_rfl) trivial ?_
                  refine A_pure (.v (.one (.val (.int .i64 (Int.tmod (w64 ((w64 (x23 - v31)) + ((a1.Read.length : Nat) : Int))) ((a1.Read.length : Nat) : Int)))))) [14] [] (True) (by kernel_rfl) trivial ?_
                  refine A_pure (.v (.one (.val (.int .i64 (w64 ((w64 ((((a1.Read.getD v33.toNat default).P).X) - (((a1.Read.getD v31.toNat default).P).X))) * (Int.tmod (w64 ((w64 (x23 - v31)) + ((a1.Read.length : Nat) : Int))) ((a1.Read.length : Nat) : Int)))))))) [105, 106] [] (True) (by kernel_rfl) trivial ?_
                  refine A_pure (.v (.one (.val (.int .i64 (Int.tmod (w64 ((w64 (v33 - v31)) + ((a1.Read.length : Nat) : Int))) ((a1.Read.length : Nat) : Int)))))) [15] [] (True) (by kernel_rfl) trivial ?_
                  refine A_run ⟨true, (ref12_floor_x v38).sh 5, obNv 5 (ref12_floor_o v38), obSh 5 (ref12_floor_o v38), [107, 108], []⟩ (by kernel_rfl) (Step_call (x := ref12_floor_x v38) (ob := ref12_floor_o v38) (f := 39) (args := [(.tmp 107), (.tmp 108)]) (fn := Tryd.f39) (ys := [.one (.val (.int .i64 (w64 ((w64 ((((a1.Read.getD v33.toNat default).P).X) - (((a1.Read.getD v31.toNat default).P).X))) * (Int.tmod (w64 ((w64 (x23 - v31)) + ((a1.Read.length : Nat) : Int))) ((a1.Read.length : Nat) : Int)))))), .one (.val (.int .i64 (Int.tmod (w64 ((w64 (v33 - v31)) + ((a1.Read.length : Nat) : Int))) ((a1.Read.length : Nat) : Int))))]) 5 (by kernel_rfl) (by kernel_rfl) (by kernel_rfl) (by kernel_rfl) (by kernel_rfl) (by kernel_rfl) rfl (ref12_floor_ok (w64 ((w64 ((((a1.Read.getD v33.toNat default).P).X) - (((a1.Read.getD v31.toNat default).P).X))) * (Int.tmod (w64 ((w64 (x23 - v31)) + ((a1.Read.length : Nat) : Int))) ((a1.Read.length : Nat) : Int)))) (Int.tmod (w64 ((w64 (v33 - v31)) + ((a1.Read.length : Nat) : Int))) ((a1.Read.length : Nat) : Int)) v38 h39) (by kernel_rfl) (by kernel_rfl)) ?_
                  refine A_pure (.v (.one (.val (.int .i64 (w64 ((((a1.Read.getD v31.toNat default).P).X) + v38)))))) [100, 109] [] (True) (by kernel_rfl) trivial ?_
                  refine A_pure (.v (.one (.bptr 3 0 1))) [16] [] (True) (by kernel_rfl) trivial ?_
                  refine A_pure (.v (.one (.val (.int .i64 (((a1.Read.getD v31.toNat default).P).Y))))) [111] [3] (True) (by kernel_rfl) trivial ?_
                  refine A_pure (.v (.one (.bptr 4 0 1))) [17] [] (True) (by kernel_rfl) trivial ?_
                  refine A_pure (.v (.one (.val (.int .i64 (((a1.Read.getD v33.toNat default).P).Y))))) [113] [4] (True) (by kernel_rfl) trivial ?_
                  refine A_pure (.v (.one (.bptr 3 0 1))) [16] [] (True) (by kernel_rfl) trivial ?_
                  refine A_pure (.v (.one (.val (.int .i64 (((a1.Read.getD v31.toNat default).P).Y))))) [115] [3] (True) (by kernel_rfl) trivial ?_
                  refine A_pure (.v (.one (.val (.int .i64 (w64 ((((a1.Read.getD v33.toNat default).P).Y) - (((a1.Read.getD v31.toNat default).P).Y))))))) [114, 116] [] (True) (by kernel_rfl) trivial ?_
                  refine A_pure (.v (.one (.val (.int .i64 (Int.tmod (w64 ((w64 (x23 - v31)) + ((a1.Read.length : Nat) : Int))) ((a1.Read.length : Nat) : Int)))))) [14] [] (True) (by kernel_rfl) trivial ?_
                  refine A_pure (.v (.one (.val (.int .i64 (w64 ((w64 ((((a1.Read.getD v33.toNat default).P).Y) - (((a1.Read.getD v31.toNat default).P).Y))) * (Int.tmod (w64 ((w64 (x23 - v31)) + ((a1.Read.length : Nat) : Int))) ((a1.Read.length : Nat) : Int)))))))) [117, 118] [] (True) (by kernel_rfl) trivial ?_
                  refine A_pure (.v (.one (.val (.int .i64 (Int.tmod (w64 ((w64 (v33 - v31)) + ((a1.Read.length : Nat) : Int))) ((a1.Read.length : Nat) : Int)))))) [15] [] (True) (by kernel_rfl) trivial ?_
                  refine A_run ⟨true, (ref12_floor_x v40).sh 5, obNv 5 (ref12_floor_o v40), obSh 5 (ref12_floor_o v40), [119, 120], []⟩ (by kernel_rfl) (Step_call (x := ref12_floor_x v40) (ob := ref12_floor_o v40) (f := 39) (args := [(.tmp 119), (.tmp 120)]) (fn := Tryd.f39) (ys := [.one (.val (.int .i64 (w64 ((w64 ((((a1.Read.getD v33.toNat default).P).Y) - (((a1.Read.getD v31.toNat default).P).Y))) * (Int.tmod (w64 ((w64 (x23 - v31)) + ((a1.Read.length : Nat) : Int))) ((a1.Read.length : Nat) : Int)))))), .one (.val (.int .i64 (Int.tmod (w64 ((w64 (v33 - v31)) + ((a1.Read.length : Nat) : Int))) ((a1.Read.length : Nat) : Int))))]) 5 (by kernel_rfl) (by kernel_rfl) (by kernel_rfl) (by kernel_rfl) (by kernel_rfl) (by kernel_rfl) rfl (ref12_floor_ok (w64 ((w64 ((((a1.Read.getD v33.toNat default).P).Y) - (((a1.Read.getD v31.toNat default).P).Y))) * (Int.tmod (w64 ((w64 (x23 - v31)) + ((a1.Read.length : Nat) : Int))) ((a1.Read.length : Nat) : Int)))) (Int.tmod (w64 ((w64 (v33 - v31)) + ((a1.Read.length : Nat) : Int))) ((a1.Read.length : Nat) : Int)) v40 h41) (by kernel_rfl) (by kernel_rfl)) ?_
                  refine A_pure (.v (.one (.val (.int .i64 (w64 ((((a1.Read.getD v31.toNat default).P).Y) + v40)))))) [112, 121] [] (True) (by kernel_rfl) trivial ?_
                  refine A_pure (.v (.agg [.val (.int .i64 (w64 ((((a1.Read.getD v31.toNat default).P).X) + v38))), .val (.int .i64 (w64 ((((a1.Read.getD v31.toNat default).P).Y) + v40)))])) [110, 122] [] (True) (by kernel_rfl) trivial ?_
                  refine A_run ⟨true, .v (.one (.own 5 0 2 1)), [(5, 0)], [(5, (0, .row 38 2 1 (rowf e_Point default ([(Point.mk (w64 ((((a1.Read.getD v31.toNat default).P).X) + v38)) (w64 ((((a1.Read.getD v31.toNat default).P).Y) + v40)))] : List Point))))], [123], []⟩ (by kernel_rfl) (Step_lit 34 38 1 #[(0, (.tmp 123))] 5 0 Tryd.t38 [.val (.int .i64 0), .val (.int .i64 0)] [(0, .agg [.val (.int .i64 (w64 ((((a1.Read.getD v31.toNat default).P).X) + v38))), .val (.int .i64 (w64 ((((a1.Read.getD v31.toNat default).P).Y) + v40)))])] [.val (.int .i64 (w64 ((((a1.Read.getD v31.toNat default).P).X) + v38))), .val (.int .i64 (w64 ((((a1.Read.getD v31.toNat default).P).Y) + v40)))] (by kernel_rfl) (by kernel_rfl) (by kernel_rfl) (by kernel_rfl) (by kernel_rfl) (by kernel_rfl) (by kernel_rfl) (by kernel_rfl) (by kernel_rfl) (by kernel_rfl) (by kernel_rfl) (rowf e_Point default ([(Point.mk (w64 ((((a1.Read.getD v31.toNat default).P).X) + v38)) (w64 ((((a1.Read.getD v31.toNat default).P).Y) + v40)))] : List Point)) (lit_succ (n := 0) lit_zero (by kernel_rfl))) ?_
                  refine A_run ⟨true, .v (.one (.own 1001 1 2 (l22.length + 1))), [(1001, 1)], [(1001, (1, .row 38 2 (l22.length + 1) (rowf e_Point default (l22 ++ ([(Point.mk (w64 ((((a1.Read.getD v31.toNat default).P).X) + v38)) (w64 ((((a1.Read.getD v31.toNat default).P).Y) + v40)))] : List Point)))))], [98, 124], [5, 1001]⟩ (by kernel_rfl) (Step_append (.tmp 98) (.tmp 124) 34 38 1001 0 1 l22.length l22.length 1 Tryd.t38 (.agg #[.int .i64 0, .int .i64 0]) (rowf e_Point default l22) (rowf e_Point default ([(Point.mk (w64 ((((a1.Read.getD v31.toNat default).P).X) + v38)) (w64 ((((a1.Read.getD v31.toNat default).P).Y) + v40)))] : List Point)) (rowf e_Point default (l22 ++ ([(Point.mk (w64 ((((a1.Read.getD v31.toNat default).P).X) + v38)) (w64 ((((a1.Read.getD v31.toNat default).P).Y) + v40)))] : List Point))) (.one (.own 5 0 2 1)) (1 ≤ 1) (by kernel_rfl) (by kernel_rfl) (by kernel_rfl) (by kernel_rfl) (by kernel_rfl) (by kernel_rfl) (by kernel_rfl) (by kernel_rfl) (by kernel_rfl) (by kernel_rfl) (by kernel_rfl) (Nat.le_refl _) (fun _ _ => by kernel_rfl) (Nat.le_refl _) (room_of g42) (rowf_app e_Point default l22 ([(Point.mk (w64 ((((a1.Read.getD v31.toNat default).P).X) + v38)) (w64 ((((a1.Read.getD v31.toNat default).P).Y) + v40)))] : List Point) l22.length 1 rfl rfl)) ?_
                  refine A_pure (.v (.one (.own 1001 1 2 (l22.length + 1)))) [125] [] (True) (by kernel_rfl) trivial ?_
                  exact A_end
                · exact J_mk ((l22 ++ ([(Point.mk (w64 ((((a1.Read.getD v31.toNat default).P).X) + v38)) (w64 ((((a1.Read.getD v31.toNat default).P).Y) + v40)))] : List Point)), (l22.length + 1)) ⟨(len_app rfl rfl), hm⟩ (by kernel_rfl) (by kernel_rfl)
    · replace hm := bif_f b25 hm
      refine R_exit 0 (by kernel_rfl) ?_
      obtain rfl := Option.some.inj hm
      exact L0_mk (by kernel_rfl) (by kernel_rfl)

set_option maxRecDepth 100000 in
theorem ref12_Repair_ok (a1 : Ring) (a2 : Int) (r : (List Point) × Int) (hm : ref12_Repair a1 a2 = some r) : Ct Tryd.prog globs 22 [.agg [.val (.int .i64 a1.Z), tl e_Reading default a1.Read], .one (.val (.int .i64 a2))] (ref12_Repair_x r) (ref12_Repair_o r) := by
  unfold ref12_Repair at hm
  refine Ct_of_H (fn := Tryd.f22) (c := nd Tryd.f22 []) mixed (by kernel_rfl) (by kernel_rfl) (by kernel_rfl) fun w A hg => ?_
  show H ({ P := Tryd.prog, w0 := w, nt := 127, A := A, globs := globs, mixed := mixed, glob := hg } : Ctx) _ _ _
  refine R_seq (nd Tryd.f22 [0]) (nd Tryd.f22 [1]) (by kernel_rfl) ?_
  refine R_region 0 (rg Tryd.f22 [0]) (by kernel_rfl) ?_
  have k3 : opsOk 127 (rg Tryd.f22 [0]) = true := by kernel_rfl
  refine P_step k3 ([(1, 0)]) ([(1, (0, .box 24 [.val (.int .i64 a1.Z), tl e_Reading default a1.Read]))]) (.v (.one (.bptr 1 0 0))) (by kernel_rfl) (Step_box 24 (.tmp 0) 1 0 (.agg [.val (.int .i64 a1.Z), tl e_Reading default a1.Read]) (by kernel_rfl) (by kernel_rfl) (by kernel_rfl)) ?_
  refine P_op k3 (.v (.one (.emp))) (by kernel_rfl) ?_
  refine P_op k3 (.v (.one (.val (.int .i64 0)))) (by kernel_rfl) ?_
  refine HOps_end (by kernel_rfl) ?_
  refine R_seq (nd Tryd.f22 [1, 0]) (nd Tryd.f22 [1, 1]) (by kernel_rfl) ?_
  refine R_seq (nd Tryd.f22 [1, 0, 0]) (nd Tryd.f22 [1, 0, 1]) (by kernel_rfl) ?_
  refine R_region 1 (rg Tryd.f22 [1, 0, 0]) (by kernel_rfl) ?_
  have k4 : opsOk 127 (rg Tryd.f22 [1, 0, 0]) = true := by kernel_rfl
  refine P_op k4 (.v (.agg [.val (.int .i64 a1.Z), tl e_Reading default a1.Read])) (by kernel_rfl) ?_
  obtain ⟨v5, h6, hm⟩ := bind_s hm
  refine P_step k4 (obNv 2 (ref12_Check_o v5)) (obSh 2 (ref12_Check_o v5)) ((ref12_Check_x v5).sh 2) (by kernel_rfl) (Step_call (x := ref12_Check_x v5) (ob := ref12_Check_o v5) (f := 15) (args := [(.tmp 18)]) (fn := Tryd.f15) (ys := [.agg [.val (.int .i64 a1.Z), tl e_Reading default a1.Read]]) 2 (by kernel_rfl) (by kernel_rfl) (by kernel_rfl) (by kernel_rfl) (by kernel_rfl) (by kernel_rfl) rfl (ref12_Check_ok a1 v5 h6) (by kernel_rfl) (by kernel_rfl)) ?_
  refine P_op k4 (.v (.one (.val (.int .i64 v5)))) (by kernel_rfl) ?_
  refine HOps_end (by kernel_rfl) ?_
  refine R_seq (nd Tryd.f22 [1, 0, 1, 0]) (nd Tryd.f22 [1, 0, 1, 1]) (by kernel_rfl) ?_
  refine R_region 2 (rg Tryd.f22 [1, 0, 1, 0]) (by kernel_rfl) ?_
  have k7 : opsOk 127 (rg Tryd.f22 [1, 0, 1, 0]) = true := by kernel_rfl
  refine P_op k7 (.v (.one (.val (.int .i64 v5)))) (by kernel_rfl) ?_
  refine P_op k7 (.v (.one (.val (.bool (v5 != 0))))) (by kernel_rfl) ?_
  refine HOps_end (by kernel_rfl) ?_
  refine R_cond (.tmp 21) (nd Tryd.f22 [1, 0, 1, 1, 0]) (nd Tryd.f22 [1, 0, 1, 1, 1]) (by kernel_rfl) (v5 != 0) (by kernel_rfl) (fun b8 => ?_) (fun b8 => ?_)
  · replace hm := bif_t b8 hm
    refine R_seq (nd Tryd.f22 [1, 0, 1, 1, 0, 0]) (nd Tryd.f22 [1, 0, 1, 1, 0, 1]) (by kernel_rfl) ?_
    refine R_region 3 (rg Tryd.f22 [1, 0, 1, 1, 0, 0]) (by kernel_rfl) ?_
    have k9 : opsOk 127 (rg Tryd.f22 [1, 0, 1, 1, 0, 0]) = true := by kernel_rfl
    refine P_op k9 (.v (.one (.val (.int .i64 v5)))) (by kernel_rfl) ?_
    refine P_op k9 (.v (.one (.emp))) (by kernel_rfl) ?_
    refine P_op k9 (.v (.one (.val (.int .i64 v5)))) (by kernel_rfl) ?_
    refine HOps_end (by kernel_rfl) ?_
    refine H_own 4 6 38 2 (rowf e_Point default ([] : List Point)) (by kernel_rfl) ?_
    obtain rfl := Option.some.inj hm
    refine H_swap 6 0 ?_
    refine R_ret (by kernel_rfl) ?_
    show RetQ _ _ (ref12_Repair_x (([] : List Point), v5)) (ref12_Repair_o (([] : List Point), v5)) .ret _
    simp only [ref12_Repair_x, ref12_Repair_o, show ([] : List Point).length = 0 from rfl]
    exact ret_mk (by kernel_rfl) (by kernel_rfl)
  · replace hm := bif_f b8 hm
    refine R_skip (by kernel_rfl) ?_
    refine R_seq (nd Tryd.f22 [1, 1, 0]) (nd Tryd.f22 [1, 1, 1]) (by kernel_rfl) ?_
    refine R_region 4 (rg Tryd.f22 [1, 1, 0]) (by kernel_rfl) ?_
    have k10 : opsOk 127 (rg Tryd.f22 [1, 1, 0]) = true := by kernel_rfl
    refine P_op k10 (.v (.one (.bptr 1 0 1))) (by kernel_rfl) ?_
    refine P_op k10 (.v (.one (tl e_Reading default a1.Read))) (by kernel_rfl) ?_
    refine P_op k10 (.v (.one (.val (.int .i64 ((a1.Read.length : Nat) : Int))))) (by kernel_rfl) ?_
    refine P_op k10 (.v (.one (.val (.int .i64 ((a1.Read.length : Nat) : Int))))) (by kernel_rfl) ?_
    refine HOps_end (by kernel_rfl) ?_
    refine R_seq (nd Tryd.f22 [1, 1, 1, 0]) (nd Tryd.f22 [1, 1, 1, 1]) (by kernel_rfl) ?_
    refine R_region 5 (rg Tryd.f22 [1, 1, 1, 0]) (by kernel_rfl) ?_
    have k11 : opsOk 127 (rg Tryd.f22 [1, 1, 1, 0]) = true := by kernel_rfl
    refine P_op k11 (.v (.agg [.val (.int .i64 a1.Z), tl e_Reading default a1.Read])) (by kernel_rfl) ?_
    obtain ⟨v12, h13, hm⟩ := bind_s hm
    refine P_step k11 (obNv 2 (ref12_Gaps_o v12)) (obSh 2 (ref12_Gaps_o v12)) ((ref12_Gaps_x v12).sh 2) (by kernel_rfl) (Step_call (x := ref12_Gaps_x v12) (ob := ref12_Gaps_o v12) (f := 13) (args := [(.tmp 27)]) (fn := Tryd.f13) (ys := [.agg [.val (.int .i64 a1.Z), tl e_Reading default a1.Read]]) 2 (by kernel_rfl) (by kernel_rfl) (by kernel_rfl) (by kernel_rfl) (by kernel_rfl) (by kernel_rfl) rfl (ref12_Gaps_ok a1 v12 h13) (by kernel_rfl) (by kernel_rfl)) ?_
    refine P_op k11 (.tup [.one (.val (.int .i64 v12.1)), .one (.val (.int .i64 v12.2))]) (by kernel_rfl) ?_
    refine P_op k11 (.v (.one (.val (.int .i64 v12.1)))) (by kernel_rfl) ?_
    refine P_op k11 (.v (.one (.val (.int .i64 v12.2)))) (by kernel_rfl) ?_
    refine P_op k11 (.v (.one (.val (.int .i64 v12.1)))) (by kernel_rfl) ?_
    refine P_op k11 (.v (.one (.val (.int .i64 v12.2)))) (by kernel_rfl) ?_
    refine HOps_end (by kernel_rfl) ?_
    refine R_seq (nd Tryd.f22 [1, 1, 1, 1, 0]) (nd Tryd.f22 [1, 1, 1, 1, 1]) (by kernel_rfl) ?_
    refine R_join (ι := Bool) (nd Tryd.f22 [1, 1, 1, 1, 0, 0]) (nd Tryd.f22 [1, 1, 1, 1, 0, 1]) (by kernel_rfl) (fun p => ref12_Repair_k1_S a1 p) (fun p => ref12_Repair_k1 a1 p = some r) ?_ ?_
    · rintro x17 hm
      show H _ (ref12_Repair_k1_S a1 x17) (nd Tryd.f22 [1, 1, 1, 1, 0, 1]) _
      refine R_cond (.tmp 43) (nd Tryd.f22 [1, 1, 1, 1, 0, 1, 0]) (nd Tryd.f22 [1, 1, 1, 1, 0, 1, 1]) (by kernel_rfl) x17 (by kernel_rfl) (fun b18 => ?_) (fun b18 => ?_)
      · replace hm := bif_t b18 hm
        refine R_seq (nd Tryd.f22 [1, 1, 1, 1, 0, 1, 0, 0]) (nd Tryd.f22 [1, 1, 1, 1, 0, 1, 0, 1]) (by kernel_rfl) ?_
        refine R_region 7 (rg Tryd.f22 [1, 1, 1, 1, 0, 1, 0, 0]) (by kernel_rfl) ?_
        have k19 : opsOk 127 (rg Tryd.f22 [1, 1, 1, 1, 0, 1, 0, 0]) = true := by kernel_rfl
        refine P_op k19 (.v (.one (.emp))) (by kernel_rfl) ?_
        refine P_op k19 (.v (.one (.val (.int .i64 30)))) (by kernel_rfl) ?_
        refine HOps_end (by kernel_rfl) ?_
        refine H_own 4 7 38 2 (rowf e_Point default ([] : List Point)) (by kernel_rfl) ?_
        obtain rfl := Option.some.inj hm
        refine H_swap 7 0 ?_
        refine R_ret (by kernel_rfl) ?_
        show RetQ _ _ (ref12_Repair_x (([] : List Point), 30)) (ref12_Repair_o (([] : List Point), 30)) .ret _
        simp only [ref12_Repair_x, ref12_Repair_o, show ([] : List Point).length = 0 from rfl]
        exact ret_mk (by kernel_rfl) (by kernel_rfl)
      · replace hm := bif_f b18 hm
        refine R_skip (by kernel_rfl) ?_
        refine R_seq (nd Tryd.f22 [1, 1, 1, 1, 1, 0]) (nd Tryd.f22 [1, 1, 1, 1, 1, 1]) (by kernel_rfl) ?_
        refine R_region 8 (rg Tryd.f22 [1, 1, 1, 1, 1, 0]) (by kernel_rfl) ?_
        have k20 : opsOk 127 (rg Tryd.f22 [1, 1, 1, 1, 1, 0]) = true := by kernel_rfl
        refine P_op k20 (.v (.one (.emp))) (by kernel_rfl) ?_
        refine HOps_end (by kernel_rfl) ?_
        refine R_seq (nd Tryd.f22 [1, 1, 1, 1, 1, 1, 0]) (nd Tryd.f22 [1, 1, 1, 1, 1, 1, 1]) (by kernel_rfl) ?_
        refine R_seq (nd Tryd.f22 [1, 1, 1, 1, 1, 1, 0, 0]) (nd Tryd.f22 [1, 1, 1, 1, 1, 1, 0, 1]) (by kernel_rfl) ?_
        refine R_region 9 (rg Tryd.f22 [1, 1, 1, 1, 1, 1, 0, 0]) (by kernel_rfl) ?_
        have k21 : opsOk 127 (rg Tryd.f22 [1, 1, 1, 1, 1, 1, 0, 0]) = true := by kernel_rfl
        refine P_op k21 (.v (.one (.val (.int .i64 0)))) (by kernel_rfl) ?_
        refine HOps_own 10 1001 38 2 (rowf e_Point default ([] : List Point)) (by kernel_rfl) ?_
        refine HOps_end (by kernel_rfl) ?_
        obtain ⟨o46, h47, hm⟩ := bind_s hm
        refine R_loop0 (nd Tryd.f22 [1, 1, 1, 1, 1, 1, 0, 1, 0, 0]) 0 (by kernel_rfl) FUEL (fun o => ref12_Repair_L2_T o) o46 (HL_enter (ref12_Repair_L2_S a1 ([] : List Point) 0 0) (by kernel_rfl) (by kernel_rfl) (ref12_Repair_L2_ok w A hg a1 FUEL ([] : List Point) 0 0 o46 rfl h47)) ?_
        refine R_seq (nd Tryd.f22 [1, 1, 1, 1, 1, 1, 1, 0]) (nd Tryd.f22 [1, 1, 1, 1, 1, 1, 1, 1]) (by kernel_rfl) ?_
        refine R_region 18 (rg Tryd.f22 [1, 1, 1, 1, 1, 1, 1, 0]) (by kernel_rfl) ?_
        have k48 : opsOk 127 (rg Tryd.f22 [1, 1, 1, 1, 1, 1, 1, 0]) = true := by kernel_rfl
        refine P_op k48 (.v (.one (.own 1001 0 2 o46.length))) (by kernel_rfl) ?_
        refine P_op k48 (.v (.one (.own 1001 0 2 o46.length))) (by kernel_rfl) ?_
        refine P_op k48 (.v (.one (.val (.int .i64 0)))) (by kernel_rfl) ?_
        refine HOps_end (by kernel_rfl) ?_
        obtain rfl := Option.some.inj hm
        refine H_swap 1001 0 ?_
        refine R_ret (by kernel_rfl) ?_
        exact ret_mk (by kernel_rfl) (by kernel_rfl)
    · refine R_region 6 (rg Tryd.f22 [1, 1, 1, 1, 0, 0]) (by kernel_rfl) ?_
      have k14 : opsOk 127 (rg Tryd.f22 [1, 1, 1, 1, 0, 0]) = true := by kernel_rfl
      refine P_op k14 (.v (.one (.val (.int .i64 ((a1.Read.length : Nat) : Int))))) (by kernel_rfl) ?_
      refine P_op k14 (.v (.one (.val (.int .i64 v12.1)))) (by kernel_rfl) ?_
      refine P_op k14 (.v (.one (.val (.int .i64 (w64 (((a1.Read.length : Nat) : Int) - v12.1)))))) (by kernel_rfl) ?_
      refine P_op k14 (.v (.one (.val (.bool (decide ((w64 (((a1.Read.length : Nat) : Int) - v12.1)) < 3)))))) (by kernel_rfl) ?_
      refine P_op k14 (.v (.one (.val (.bool (decide ((w64 (((a1.Read.length : Nat) : Int) - v12.1)) < 3)))))) (by kernel_rfl) ?_
      refine HOps_bool 35 (decide ((w64 (((a1.Read.length : Nat) : Int) - v12.1)) < 3)) (by kernel_rfl) (fun b15 => ?_) (fun b15 => ?_)
      · replace hm := bif_t b15 hm
        refine P_skip k14 (by kernel_rfl) ?_
        refine P_skip k14 (by kernel_rfl) ?_
        refine P_skip k14 (by kernel_rfl) ?_
        refine P_skip k14 (by kernel_rfl) ?_
        refine P_skip k14 (by kernel_rfl) ?_
        refine P_skip k14 (by kernel_rfl) ?_
        refine P_skip k14 (by kernel_rfl) ?_
        refine P_op k14 (.v (.one (.val (.bool true)))) (by kernel_rfl) ?_
        refine HOps_end (by kernel_rfl) ?_
        exact J_mk (true) hm (by kernel_rfl) (by kernel_rfl)
      · replace hm := bif_f b15 hm
        refine P_op k14 (.v (.one (.val (.int .i64 v12.1)))) (by kernel_rfl) ?_
        refine P_op k14 (.v (.one (.val (.bool (decide (v12.1 > 0)))))) (by kernel_rfl) ?_
        refine P_op k14 (.v (.one (.val (.bool (decide (v12.1 > 0)))))) (by kernel_rfl) ?_
        refine HOps_bool 38 (decide (v12.1 > 0)) (by kernel_rfl) (fun b16 => ?_) (fun b16 => ?_)
        · replace hm := bif_t b16 hm
          refine P_op k14 (.v (.one (.val (.int .i64 v12.2)))) (by kernel_rfl) ?_
          refine P_op k14 (.v (.one (.val (.int .i64 a2)))) (by kernel_rfl) ?_
          refine P_op k14 (.v (.one (.val (.bool (decide (v12.2 > a2)))))) (by kernel_rfl) ?_
          refine P_op k14 (.v (.one (.val (.bool (decide (v12.2 > a2)))))) (by kernel_rfl) ?_
          refine P_op k14 (.v (.one (.val (.bool (decide (v12.2 > a2)))))) (by kernel_rfl) ?_
          refine HOps_end (by kernel_rfl) ?_
          exact J_mk (decide (v12.2 > a2)) hm (by kernel_rfl) (by kernel_rfl)
        · replace hm := bif_f b16 hm
          refine P_skip k14 (by kernel_rfl) ?_
          refine P_skip k14 (by kernel_rfl) ?_
          refine P_skip k14 (by kernel_rfl) ?_
          refine P_op k14 (.v (.one (.val (.bool false)))) (by kernel_rfl) ?_
          refine P_op k14 (.v (.one (.val (.bool false)))) (by kernel_rfl) ?_
          refine HOps_end (by kernel_rfl) ?_
          exact J_mk (false) hm (by kernel_rfl) (by kernel_rfl)

end Saw
end Go.SL
