import Derived.Test.YtfpgdgmcmkileaaDoorRBase
import Derived.Test.YtfpgdgmcmkileaaDoorRA1
set_option linter.unusedVariables false
set_option linter.unusedSimpArgs false
namespace Go.SL
namespace Saw
open Go.Proofs
set_option maxHeartbeats 4000000

def ring_Repair_x (r : (List Point) × Int) : V := .tup [.one (.own 0 0 2 r.1.length), .one (.val (.int .i64 r.2))]

def ring_Repair_o (r : (List Point) × Int) : List (Nat × (Nat × O)) := [(0, (0, .row 38 2 r.1.length (rowf e_Point default r.1)))]

theorem ring_Repair_f (r : (List Point) × Int) : Frozen (ring_Repair_o r) := by
  intro i k o h
  unfold ring_Repair_o at h
  rw [look_cons] at h
  split at h
  · cases h; exact fun _ _ => rfl
  · cases h

def ring_Repair_L3_S (a1 : Ring) (v11 : (List Int)) (x26 : Int) (v38 : Int) (l41 : List Point) (l41n : Nat) (x42 : Int) : St :=
  { slots := [(2, .v (.one (.bptr 1 0 0))), (7, .v (.one (.own 2 0 1 v11.length))), (10, .v (.one (.own 3 0 2 l41n))), (12, .v (.one (.val (.int .i64 (v11.getD x26.toNat default))))), (13, .v (.one (.bptr 4 0 0))), (14, .v (.one (.bptr 5 0 0))), (15, .v (.one (.val (.int .i64 v38)))), (16, .v (.one (.val (.int .i64 x42)))), (45, .v (.one (.own 2 0 1 v11.length))), (46, .v (.one (.val (.int .i64 ((v11.length : Nat) : Int))))), (47, .v (.one (.val (.int .i64 x26))))], objs := [(1, (0, .box 24 [.val (.int .i64 a1.Z), tl e_Reading default a1.Read])), (2, (0, .row 3 1 v11.length (rowf e_i64 default v11))), (3, (0, .row 38 2 l41n (rowf e_Point default l41))), (4, (0, .box 38 [.val (.int .i64 (((a1.Read.getD (v11.getD x26.toNat default).toNat default).P).X)), .val (.int .i64 (((a1.Read.getD (v11.getD x26.toNat default).toNat default).P).Y))])), (5, (0, .box 38 [.val (.int .i64 (((a1.Read.getD (v11.getD ((Int.tmod (w64 (x26 + 1)) ((v11.length : Nat) : Int)).toNat) default).toNat default).P).X)), .val (.int .i64 (((a1.Read.getD (v11.getD ((Int.tmod (w64 (x26 + 1)) ((v11.length : Nat) : Int)).toNat) default).toNat default).P).Y))]))] }

def ring_Repair_L3_T (a1 : Ring) (v11 : (List Int)) (x26 : Int) (l52 : List Point) : St :=
  { slots := [(2, .v (.one (.bptr 1 0 0))), (7, .v (.one (.own 2 0 1 v11.length))), (10, .v (.one (.own 3 0 2 l52.length))), (45, .v (.one (.own 2 0 1 v11.length))), (46, .v (.one (.val (.int .i64 ((v11.length : Nat) : Int))))), (47, .v (.one (.val (.int .i64 x26))))], objs := [(1, (0, .box 24 [.val (.int .i64 a1.Z), tl e_Reading default a1.Read])), (2, (0, .row 3 1 v11.length (rowf e_i64 default v11))), (3, (0, .row 38 2 l52.length (rowf e_Point default l52)))] }

def ring_Repair_L2_S (a1 : Ring) (v11 : (List Int)) (l25 : List Point) (l25n : Nat) (x26 : Int) : St :=
  { slots := [(2, .v (.one (.bptr 1 0 0))), (7, .v (.one (.own 2 0 1 v11.length))), (10, .v (.one (.own 3 0 2 l25n))), (45, .v (.one (.own 2 0 1 v11.length))), (46, .v (.one (.val (.int .i64 ((v11.length : Nat) : Int))))), (47, .v (.one (.val (.int .i64 x26))))], objs := [(1, (0, .box 24 [.val (.int .i64 a1.Z), tl e_Reading default a1.Read])), (2, (0, .row 3 1 v11.length (rowf e_i64 default v11))), (3, (0, .row 38 2 l25n (rowf e_Point default l25)))] }

def ring_Repair_L2_T (l56 : List Point) : St :=
  { slots := [(10, .v (.one (.own 3 0 2 l56.length)))], objs := [(3, (0, .row 38 2 l56.length (rowf e_Point default l56)))] }

def ring_Repair_k1_S (a1 : Ring) (v11 : (List Int)) (x19 : Bool) : St :=
  { slots := [(2, .v (.one (.bptr 1 0 0))), (7, .v (.one (.own 2 0 1 v11.length))), (40, .v (.one (.val (.bool x19))))], objs := [(1, (0, .box 24 [.val (.int .i64 a1.Z), tl e_Reading default a1.Read])), (2, (0, .row 3 1 v11.length (rowf e_i64 default v11)))] }

set_option maxRecDepth 100000 in
theorem ring_Repair_L3_ok (w : World) (A : Nat → Prop) (hg : Globs globs w A) (a1 : Ring) (v11 : (List Int)) (x26 : Int) (v38 : Int) : ∀ (n : Nat) (l41 : List Point) (l41n : Nat) (x42 : Int) (res : (List Point)), l41.length = l41n → ring_Repair_L3 a1 v11 x26 v38 n l41 x42 = some res → HL ({ P := Tryd.prog, w0 := w, nt := 121, A := A, globs := globs, mixed := mixed, glob := hg } : Ctx) (nd Tryd.f21 [1, 1, 1, 1, 1, 1, 0, 1, 0, 0, 1, 1, 0, 0, 1, 1, 1, 1, 1, 0, 0]) (loopQ0 2 (fun o => ring_Repair_L3_T a1 v11 x26 o) res) n (ring_Repair_L3_S a1 v11 x26 v38 l41 l41n x42) := by
  intro n
  induction n with
  | zero =>
    intro l41 l41n x42 res hl0 hm
    cases hm
  | succ n ih =>
    intro l41 l41n x42 res hl0 hm
    subst hl0
    refine HL_succ ?_
    refine R_seq (nd Tryd.f21 [1, 1, 1, 1, 1, 1, 0, 1, 0, 0, 1, 1, 0, 0, 1, 1, 1, 1, 1, 0, 0, 0]) (nd Tryd.f21 [1, 1, 1, 1, 1, 1, 0, 1, 0, 0, 1, 1, 0, 0, 1, 1, 1, 1, 1, 0, 0, 1]) (by kernel_rfl) ?_
    refine R_seq (nd Tryd.f21 [1, 1, 1, 1, 1, 1, 0, 1, 0, 0, 1, 1, 0, 0, 1, 1, 1, 1, 1, 0, 0, 0, 0]) (nd Tryd.f21 [1, 1, 1, 1, 1, 1, 0, 1, 0, 0, 1, 1, 0, 0, 1, 1, 1, 1, 1, 0, 0, 0, 1]) (by kernel_rfl) ?_
    refine R_region 16 (rg Tryd.f21 [1, 1, 1, 1, 1, 1, 0, 1, 0, 0, 1, 1, 0, 0, 1, 1, 1, 1, 1, 0, 0, 0, 0]) (by kernel_rfl) ?_
    have k43 : opsOk 121 (rg Tryd.f21 [1, 1, 1, 1, 1, 1, 0, 1, 0, 0, 1, 1, 0, 0, 1, 1, 1, 1, 1, 0, 0, 0, 0]) = true := by kernel_rfl
    refine P_op k43 (.v (.one (.val (.int .i64 x42)))) (by kernel_rfl) ?_
    refine P_op k43 (.v (.one (.val (.int .i64 v38)))) (by kernel_rfl) ?_
    refine P_op k43 (.v (.one (.val (.bool (decide (x42 ≤ v38)))))) (by kernel_rfl) ?_
    refine HOps_end (by kernel_rfl) ?_
    refine R_cond (.tmp 81) (nd Tryd.f21 [1, 1, 1, 1, 1, 1, 0, 1, 0, 0, 1, 1, 0, 0, 1, 1, 1, 1, 1, 0, 0, 0, 1, 0]) (nd Tryd.f21 [1, 1, 1, 1, 1, 1, 0, 1, 0, 0, 1, 1, 0, 0, 1, 1, 1, 1, 1, 0, 0, 0, 1, 1]) (by kernel_rfl) (decide (x42 ≤ v38)) (by kernel_rfl) (fun b44 => ?_) (fun b44 => ?_)
    · replace hm := bif_t b44 hm
      refine R_skip (by kernel_rfl) ?_
      refine R_seq (nd Tryd.f21 [1, 1, 1, 1, 1, 1, 0, 1, 0, 0, 1, 1, 0, 0, 1, 1, 1, 1, 1, 0, 0, 1, 0]) (nd Tryd.f21 [1, 1, 1, 1, 1, 1, 0, 1, 0, 0, 1, 1, 0, 0, 1, 1, 1, 1, 1, 0, 0, 1, 1]) (by kernel_rfl) ?_
      refine R_block 3 (nd Tryd.f21 [1, 1, 1, 1, 1, 1, 0, 1, 0, 0, 1, 1, 0, 0, 1, 1, 1, 1, 1, 0, 0, 1, 0, 0]) (by kernel_rfl) ?_
      obtain ⟨g45, hm⟩ := bif_n hm
      obtain ⟨v46, h47, hm⟩ := bind_s hm
      obtain ⟨v48, h49, hm⟩ := bind_s hm
      obtain ⟨g50, hm⟩ := bif_n hm
      refine R_draw 18 (rg Tryd.f21 [1, 1, 1, 1, 1, 1, 0, 1, 0, 0, 1, 1, 0, 0, 1, 1, 1, 1, 1, 0, 0, 1, 0, 0]) (by kernel_rfl) [⟨true, .v (.one (.own 3 0 2 l41.length)), [], [], [10], []⟩, ⟨true, .v (.one (.val (.int .i64 (v11.getD x26.toNat default)))), [], [], [12], []⟩, ⟨true, .v (.one (.val (.int .i64 x42))), [], [], [16], []⟩, ⟨true, .v (.one (.val (.int .i64 (w64 ((v11.getD x26.toNat default) + x42))))), [], [], [85, 86], []⟩, ⟨true, .v (.one (.own 3 0 2 l41.length)), [], [], [10], []⟩, ⟨true, .v (.one (.val (.int .i64 ((l41.length : Nat) : Int)))), [], [], [88], []⟩, ⟨true, .v (.one (.val (.int .i64 (Int.tmod (w64 ((v11.getD x26.toNat default) + x42)) ((l41.length : Nat) : Int))))), [], [], [87, 89], []⟩, ⟨true, .v (.one (.bptr 4 0 0)), [], [], [13], []⟩, ⟨true, .v (.one (.val (.int .i64 (((a1.Read.getD (v11.getD x26.toNat default).toNat default).P).X)))), [], [], [91], [4]⟩, ⟨true, .v (.one (.bptr 5 0 0)), [], [], [14], []⟩, ⟨true, .v (.one (.val (.int .i64 (((a1.Read.getD (v11.getD ((Int.tmod (w64 (x26 + 1)) ((v11.length : Nat) : Int)).toNat) default).toNat default).P).X)))), [], [], [93], [5]⟩, ⟨true, .v (.one (.bptr 4 0 0)), [], [], [13], []⟩, ⟨true, .v (.one (.val (.int .i64 (((a1.Read.getD (v11.getD x26.toNat default).toNat default).P).X)))), [], [], [95], [4]⟩, ⟨true, .v (.one (.val (.int .i64 (w64 ((((a1.Read.getD (v11.getD ((Int.tmod (w64 (x26 + 1)) ((v11.length : Nat) : Int)).toNat) default).toNat default).P).X) - (((a1.Read.getD (v11.getD x26.toNat default).toNat default).P).X)))))), [], [], [94, 96], []⟩, ⟨true, .v (.one (.val (.int .i64 x42))), [], [], [16], []⟩, ⟨true, .v (.one (.val (.int .i64 (w64 ((w64 ((((a1.Read.getD (v11.getD ((Int.tmod (w64 (x26 + 1)) ((v11.length : Nat) : Int)).toNat) default).toNat default).P).X) - (((a1.Read.getD (v11.getD x26.toNat default).toNat default).P).X))) * x42))))), [], [], [97, 98], []⟩, ⟨true, .v (.one (.val (.int .i64 v38))), [], [], [15], []⟩, ⟨true, .v (.one (.val (.int .i64 (w64 (v38 + 1))))), [], [], [100], []⟩, ⟨true, (ring_floor_x v46).sh 6, obNv 6 (ring_floor_o v46), obSh 6 (ring_floor_o v46), [99, 101], []⟩, ⟨true, .v (.one (.val (.int .i64 (w64 ((((a1.Read.getD (v11.getD x26.toNat default).toNat default).P).X) + v46))))), [], [], [92, 102], []⟩, ⟨true, .v (.one (.bptr 4 0 1)), [], [], [13], []⟩, ⟨true, .v (.one (.val (.int .i64 (((a1.Read.getD (v11.getD x26.toNat default).toNat default).P).Y)))), [], [], [104], [4]⟩, ⟨true, .v (.one (.bptr 5 0 1)), [], [], [14], []⟩, ⟨true, .v (.one (.val (.int .i64 (((a1.Read.getD (v11.getD ((Int.tmod (w64 (x26 + 1)) ((v11.length : Nat) : Int)).toNat) default).toNat default).P).Y)))), [], [], [106], [5]⟩, ⟨true, .v (.one (.bptr 4 0 1)), [], [], [13], []⟩, ⟨true, .v (.one (.val (.int .i64 (((a1.Read.getD (v11.getD x26.toNat default).toNat default).P).Y)))), [], [], [108], [4]⟩, ⟨true, .v (.one (.val (.int .i64 (w64 ((((a1.Read.getD (v11.getD ((Int.tmod (w64 (x26 + 1)) ((v11.length : Nat) : Int)).toNat) default).toNat default).P).Y) - (((a1.Read.getD (v11.getD x26.toNat default).toNat default).P).Y)))))), [], [], [107, 109], []⟩, ⟨true, .v (.one (.val (.int .i64 x42))), [], [], [16], []⟩, ⟨true, .v (.one (.val (.int .i64 (w64 ((w64 ((((a1.Read.getD (v11.getD ((Int.tmod (w64 (x26 + 1)) ((v11.length : Nat) : Int)).toNat) default).toNat default).P).Y) - (((a1.Read.getD (v11.getD x26.toNat default).toNat default).P).Y))) * x42))))), [], [], [110, 111], []⟩, ⟨true, .v (.one (.val (.int .i64 v38))), [], [], [15], []⟩, ⟨true, .v (.one (.val (.int .i64 (w64 (v38 + 1))))), [], [], [113], []⟩, ⟨true, (ring_floor_x v48).sh 6, obNv 6 (ring_floor_o v48), obSh 6 (ring_floor_o v48), [112, 114], []⟩, ⟨true, .v (.one (.val (.int .i64 (w64 ((((a1.Read.getD (v11.getD x26.toNat default).toNat default).P).Y) + v48))))), [], [], [105, 115], []⟩, ⟨true, .v (.agg [.val (.int .i64 (w64 ((((a1.Read.getD (v11.getD x26.toNat default).toNat default).P).X) + v46))), .val (.int .i64 (w64 ((((a1.Read.getD (v11.getD x26.toNat default).toNat default).P).Y) + v48)))]), [], [], [103, 116], []⟩, ⟨true, .v (.one (.rptr 3 0 2 ((Int.tmod (w64 ((v11.getD x26.toNat default) + x42)) ((l41.length : Nat) : Int)).toNat) 0)), [], [], [84, 90], []⟩, ⟨true, .undef, [], [(3, (0, .row 38 2 l41.length (rowf e_Point default (l41.set ((Int.tmod (w64 ((v11.getD x26.toNat default) + x42)) ((l41.length : Nat) : Int)).toNat) (Point.mk (w64 ((((a1.Read.getD (v11.getD x26.toNat default).toNat default).P).X) + v46)) (w64 ((((a1.Read.getD (v11.getD x26.toNat default).toNat default).P).Y) + v48)))))))], [117, 118], [3]⟩] [0, 0, 0, 6, 0, 16, 62, 0, 128, 0, 512, 0, 2048, 7680, 0, 32256, 0, 65536, 261632, 524160, 0, 1048576, 0, 4194304, 0, 16777216, 62914560, 0, 264241152, 0, 536870912, 2143813120, 4294442496, 8589934464, 17179869183, 34359738367] (by kernel_rfl) (by kernel_rfl) (by kernel_rfl) (by kernel_rfl) (by kernel_rfl) (by kernel_rfl) ?_ ?_
      · refine A_pure (.v (.one (.own 3 0 2 l41.length))) [10] [] (True) (by kernel_rfl) trivial ?_
        refine A_pure (.v (.one (.val (.int .i64 (v11.getD x26.toNat default))))) [12] [] (True) (by kernel_rfl) trivial ?_
        refine A_pure (.v (.one (.val (.int .i64 x42)))) [16] [] (True) (by kernel_rfl) trivial ?_
        refine A_pure (.v (.one (.val (.int .i64 (w64 ((v11.getD x26.toNat default) + x42)))))) [85, 86] [] (True) (by kernel_rfl) trivial ?_
        refine A_pure (.v (.one (.own 3 0 2 l41.length))) [10] [] (True) (by kernel_rfl) trivial ?_
        refine A_pure (.v (.one (.val (.int .i64 ((l41.length : Nat) : Int))))) [88] [] (True) (by kernel_rfl) trivial ?_
        refine A_pure (.v (.one (.val (.int .i64 (Int.tmod (w64 ((v11.getD x26.toNat default) + x42)) ((l41.length : Nat) : Int)))))) [87, 89] [] (((l41.length : Nat) : Int) ≠ (0 : Int)) (by kernel_rfl) (nz_of g45) ?_
        refine A_pure (.v (.one (.bptr 4 0 0))) [13] [] (True) (by kernel_rfl) trivial ?_
        refine A_pure (.v (.one (.val (.int .i64 (((a1.Read.getD (v11.getD x26.toNat default).toNat default).P).X))))) [91] [4] (True) (by kernel_rfl) trivial ?_
        refine A_pure (.v (.one (.bptr 5 0 0))) [14] [] (True) (by kernel_rfl) trivial ?_
        refine A_pure (.v (.one (.val (.int .i64 (((a1.Read.getD (v11.getD ((Int.tmod (w64 (x26 + 1)) ((v11.length : Nat) : Int)).toNat) default).toNat default).P).X))))) [93] [5] (True) (by kernel_rfl) trivial ?_
        refine A_pure (.v (.one (.bptr 4 0 0))) [13] [] (True) (by kernel_rfl) trivial ?_
        refine A_pure (.v (.one (.val (.int .i64 (((a1.Read.getD (v11.getD x26.toNat default).toNat default).P).X))))) [95] [4] (True) (by kernel_rfl) trivial ?_
        refine A_pure (.v (.one (.val (.int .i64 (w64 ((((a1.Read.getD (v11.getD ((Int.tmod (w64 (x26 + 1)) ((v11.length : Nat) : Int)).toNat) default).toNat default).P).X) - (((a1.Read.getD (v11.getD x26.toNat default).toNat default).P).X))))))) [94, 96] [] (True) (by kernel_rfl) trivial ?_
        refine A_pure (.v (.one (.val (.int .i64 x42)))) [16] [] (True) (by kernel_rfl) trivial ?_
        refine A_pure (.v (.one (.val (.int .i64 (w64 ((w64 ((((a1.Read.getD (v11.getD ((Int.tmod (w64 (x26 + 1)) ((v11.length : Nat) : Int)).toNat) default).toNat default).P).X) - (((a1.Read.getD (v11.getD x26.toNat default).toNat default).P).X))) * x42)))))) [97, 98] [] (True) (by kernel_rfl) trivial ?_
        refine A_pure (.v (.one (.val (.int .i64 v38)))) [15] [] (True) (by kernel_rfl) trivial ?_
        refine A_pure (.v (.one (.val (.int .i64 (w64 (v38 + 1)))))) [100] [] (True) (by kernel_rfl) trivial ?_
        refine A_run ⟨true, (ring_floor_x v46).sh 6, obNv 6 (ring_floor_o v46), obSh 6 (ring_floor_o v46), [99, 101], []⟩ (by kernel_rfl) (Step_call (x := ring_floor_x v46) (ob := ring_floor_o v46) (f := 38) (args := [(.tmp 99), (.tmp 101)]) (fn := Tryd.f38) (ys := [.one (.val (.int .i64 (w64 ((w64 ((((a1.Read.getD (v11.getD ((Int.tmod (w64 (x26 + 1)) ((v11.length : Nat) : Int)).toNat) default).toNat default).P).X) - (((a1.Read.getD (v11.getD x26.toNat default).toNat default).P).X))) * x42)))), .one (.val (.int .i64 (w64 (v38 + 1))))]) 6 (by kernel_rfl) (by kernel_rfl) (by kernel_rfl) (by kernel_rfl) (by kernel_rfl) (by kernel_rfl) rfl (ring_floor_ok (w64 ((w64 ((((a1.Read.getD (v11.getD ((Int.tmod (w64 (x26 + 1)) ((v11.length : Nat) : Int)).toNat) default).toNat default).P).X) - (((a1.Read.getD (v11.getD x26.toNat default).toNat default).P).X))) * x42)) (w64 (v38 + 1)) v46 h47) (by kernel_rfl) (by kernel_rfl)) ?_
        refine A_pure (.v (.one (.val (.int .i64 (w64 ((((a1.Read.getD (v11.getD x26.toNat default).toNat default).P).X) + v46)))))) [92, 102] [] (True) (by kernel_rfl) trivial ?_
        refine A_pure (.v (.one (.bptr 4 0 1))) [13] [] (True) (by kernel_rfl) trivial ?_
        refine A_pure (.v (.one (.val (.int .i64 (((a1.Read.getD (v11.getD x26.toNat default).toNat default).P).Y))))) [104] [4] (True) (by kernel_rfl) trivial ?_
        refine A_pure (.v (.one (.bptr 5 0 1))) [14] [] (True) (by kernel_rfl) trivial ?_
        refine A_pure (.v (.one (.val (.int .i64 (((a1.Read.getD (v11.getD ((Int.tmod (w64 (x26 + 1)) ((v11.length : Nat) : Int)).toNat) default).toNat default).P).Y))))) [106] [5] (True) (by kernel_rfl) trivial ?_
        refine A_pure (.v (.one (.bptr 4 0 1))) [13] [] (True) (by kernel_rfl) trivial ?_
        refine A_pure (.v (.one (.val (.int .i64 (((a1.Read.getD (v11.getD x26.toNat default).toNat default).P).Y))))) [108] [4] (True) (by kernel_rfl) trivial ?_
        refine A_pure (.v (.one (.val (.int .i64 (w64 ((((a1.Read.getD (v11.getD ((Int.tmod (w64 (x26 + 1)) ((v11.length : Nat) : Int)).toNat) default).toNat default).P).Y) - (((a1.Read.getD (v11.getD x26.toNat default).toNat default).P).Y))))))) [107, 109] [] (True) (by kernel_rfl) trivial ?_
        refine A_pure (.v (.one (.val (.int .i64 x42)))) [16] [] (True) (by kernel_rfl) trivial ?_
        refine A_pure (.v (.one (.val (.int .i64 (w64 ((w64 ((((a1.Read.getD (v11.getD ((Int.tmod (w64 (x26 + 1)) ((v11.length : Nat) : Int)).toNat) default).toNat default).P).Y) - (((a1.Read.getD (v11.getD x26.toNat default).toNat default).P).Y))) * x42)))))) [110, 111] [] (True) (by kernel_rfl) trivial ?_
        refine A_pure (.v (.one (.val (.int .i64 v38)))) [15] [] (True) (by kernel_rfl) trivial ?_
        refine A_pure (.v (.one (.val (.int .i64 (w64 (v38 + 1)))))) [113] [] (True) (by kernel_rfl) trivial ?_
        refine A_run ⟨true, (ring_floor_x v48).sh 6, obNv 6 (ring_floor_o v48), obSh 6 (ring_floor_o v48), [112, 114], []⟩ (by kernel_rfl) (Step_call (x := ring_floor_x v48) (ob := ring_floor_o v48) (f := 38) (args := [(.tmp 112), (.tmp 114)]) (fn := Tryd.f38) (ys := [.one (.val (.int .i64 (w64 ((w64 ((((a1.Read.getD (v11.getD ((Int.tmod (w64 (x26 + 1)) ((v11.length : Nat) : Int)).toNat) default).toNat default).P).Y) - (((a1.Read.getD (v11.getD x26.toNat default).toNat default).P).Y))) * x42)))), .one (.val (.int .i64 (w64 (v38 + 1))))]) 6 (by kernel_rfl) (by kernel_rfl) (by kernel_rfl) (by kernel_rfl) (by kernel_rfl) (by kernel_rfl) rfl (ring_floor_ok (w64 ((w64 ((((a1.Read.getD (v11.getD ((Int.tmod (w64 (x26 + 1)) ((v11.length : Nat) : Int)).toNat) default).toNat default).P).Y) - (((a1.Read.getD (v11.getD x26.toNat default).toNat default).P).Y))) * x42)) (w64 (v38 + 1)) v48 h49) (by kernel_rfl) (by kernel_rfl)) ?_
        refine A_pure (.v (.one (.val (.int .i64 (w64 ((((a1.Read.getD (v11.getD x26.toNat default).toNat default).P).Y) + v48)))))) [105, 115] [] (True) (by kernel_rfl) trivial ?_
        refine A_pure (.v (.agg [.val (.int .i64 (w64 ((((a1.Read.getD (v11.getD x26.toNat default).toNat default).P).X) + v46))), .val (.int .i64 (w64 ((((a1.Read.getD (v11.getD x26.toNat default).toNat default).P).Y) + v48)))])) [103, 116] [] (True) (by kernel_rfl) trivial ?_
        refine A_pure (.v (.one (.rptr 3 0 2 ((Int.tmod (w64 ((v11.getD x26.toNat default) + x42)) ((l41.length : Nat) : Int)).toNat) 0))) [84, 90] [] (0 ≤ (Int.tmod (w64 ((v11.getD x26.toNat default) + x42)) ((l41.length : Nat) : Int)) ∧ (Int.tmod (w64 ((v11.getD x26.toNat default) + x42)) ((l41.length : Nat) : Int)) < ((l41.length : Nat) : Int)) (by kernel_rfl) (inb_of g50) ?_
        refine A_run ⟨true, .undef, [], [(3, (0, .row 38 2 l41.length (rowf e_Point default (l41.set ((Int.tmod (w64 ((v11.getD x26.toNat default) + x42)) ((l41.length : Nat) : Int)).toNat) (Point.mk (w64 ((((a1.Read.getD (v11.getD x26.toNat default).toNat default).P).X) + v46)) (w64 ((((a1.Read.getD (v11.getD x26.toNat default).toNat default).P).Y) + v48)))))))], [117, 118], [3]⟩ (by kernel_rfl) (Step_store_row 38 (.tmp 118) (.tmp 117) 3 0 2 ((Int.tmod (w64 ((v11.getD x26.toNat default) + x42)) ((l41.length : Nat) : Int)).toNat) 0 38 l41.length (rowf e_Point default l41) (rowf e_Point default (l41.set ((Int.tmod (w64 ((v11.getD x26.toNat default) + x42)) ((l41.length : Nat) : Int)).toNat) (Point.mk (w64 ((((a1.Read.getD (v11.getD x26.toNat default).toNat default).P).X) + v46)) (w64 ((((a1.Read.getD (v11.getD x26.toNat default).toNat default).P).Y) + v48))))) (.agg [.val (.int .i64 (w64 ((((a1.Read.getD (v11.getD x26.toNat default).toNat default).P).X) + v46))), .val (.int .i64 (w64 ((((a1.Read.getD (v11.getD x26.toNat default).toNat default).P).Y) + v48)))]) (by kernel_rfl) (by kernel_rfl) (by kernel_rfl) (by kernel_rfl) (by kernel_rfl) (by kernel_rfl) (by kernel_rfl) (by kernel_rfl) (toNat_lt (inb_of g50)) (rowf_set e_Point default (Point.mk (w64 ((((a1.Read.getD (v11.getD x26.toNat default).toNat default).P).X) + v46)) (w64 ((((a1.Read.getD (v11.getD x26.toNat default).toNat default).P).Y) + v48))) l41 l41.length ((Int.tmod (w64 ((v11.getD x26.toNat default) + x42)) ((l41.length : Nat) : Int)).toNat) 0 [.val (.int .i64 (w64 ((((a1.Read.getD (v11.getD x26.toNat default).toNat default).P).X) + v46))), .val (.int .i64 (w64 ((((a1.Read.getD (v11.getD x26.toNat default).toNat default).P).Y) + v48)))] rfl (by kernel_rfl))) ?_
        exact A_end
      · refine R_region 17 (rg Tryd.f21 [1, 1, 1, 1, 1, 1, 0, 1, 0, 0, 1, 1, 0, 0, 1, 1, 1, 1, 1, 0, 0, 1, 1]) (by kernel_rfl) ?_
        have k51 : opsOk 121 (rg Tryd.f21 [1, 1, 1, 1, 1, 1, 0, 1, 0, 0, 1, 1, 0, 0, 1, 1, 1, 1, 1, 0, 0, 1, 1]) = true := by kernel_rfl
        refine P_op k51 (.v (.one (.val (.int .i64 x42)))) (by kernel_rfl) ?_
        refine P_op k51 (.v (.one (.val (.int .i64 (w64 (x42 + 1)))))) (by kernel_rfl) ?_
        refine P_op k51 (.v (.one (.val (.int .i64 (w64 (x42 + 1)))))) (by kernel_rfl) ?_
        refine HOps_end (by kernel_rfl) ?_
        exact HL_enter (ring_Repair_L3_S a1 v11 x26 v38 (l41.set ((Int.tmod (w64 ((v11.getD x26.toNat default) + x42)) ((l41.length : Nat) : Int)).toNat) (Point.mk (w64 ((((a1.Read.getD (v11.getD x26.toNat default).toNat default).P).X) + v46)) (w64 ((((a1.Read.getD (v11.getD x26.toNat default).toNat default).P).Y) + v48)))) l41.length (w64 (x42 + 1))) (by kernel_rfl) (by kernel_rfl) (ih (l41.set ((Int.tmod (w64 ((v11.getD x26.toNat default) + x42)) ((l41.length : Nat) : Int)).toNat) (Point.mk (w64 ((((a1.Read.getD (v11.getD x26.toNat default).toNat default).P).X) + v46)) (w64 ((((a1.Read.getD (v11.getD x26.toNat default).toNat default).P).Y) + v48)))) l41.length (w64 (x42 + 1)) _ (len_set rfl) hm)
    · replace hm := bif_f b44 hm
      refine R_exit 2 (by kernel_rfl) ?_
      obtain rfl := Option.some.inj hm
      exact L0_mk (by kernel_rfl) (by kernel_rfl)

set_option maxRecDepth 100000 in
theorem ring_Repair_L2_ok (w : World) (A : Nat → Prop) (hg : Globs globs w A) (a1 : Ring) (v11 : (List Int)) : ∀ (n : Nat) (l25 : List Point) (l25n : Nat) (x26 : Int) (res : (List Point)), l25.length = l25n → ring_Repair_L2 a1 v11 n l25 x26 = some res → HL ({ P := Tryd.prog, w0 := w, nt := 121, A := A, globs := globs, mixed := mixed, glob := hg } : Ctx) (nd Tryd.f21 [1, 1, 1, 1, 1, 1, 0, 1, 0, 0]) (loopQ0 0 (fun o => ring_Repair_L2_T o) res) n (ring_Repair_L2_S a1 v11 l25 l25n x26) := by
  intro n
  induction n with
  | zero =>
    intro l25 l25n x26 res hl0 hm
    cases hm
  | succ n ih =>
    intro l25 l25n x26 res hl0 hm
    subst hl0
    refine HL_succ ?_
    refine R_seq (nd Tryd.f21 [1, 1, 1, 1, 1, 1, 0, 1, 0, 0, 0]) (nd Tryd.f21 [1, 1, 1, 1, 1, 1, 0, 1, 0, 0, 1]) (by kernel_rfl) ?_
    refine R_region 10 (rg Tryd.f21 [1, 1, 1, 1, 1, 1, 0, 1, 0, 0, 0]) (by kernel_rfl) ?_
    have k27 : opsOk 121 (rg Tryd.f21 [1, 1, 1, 1, 1, 1, 0, 1, 0, 0, 0]) = true := by kernel_rfl
    refine P_op k27 (.v (.one (.val (.bool (decide (x26 < ((v11.length : Nat) : Int))))))) (by kernel_rfl) ?_
    refine HOps_end (by kernel_rfl) ?_
    refine R_seq (nd Tryd.f21 [1, 1, 1, 1, 1, 1, 0, 1, 0, 0, 1, 0]) (nd Tryd.f21 [1, 1, 1, 1, 1, 1, 0, 1, 0, 0, 1, 1]) (by kernel_rfl) ?_
    refine R_cond (.tmp 48) (nd Tryd.f21 [1, 1, 1, 1, 1, 1, 0, 1, 0, 0, 1, 0, 0]) (nd Tryd.f21 [1, 1, 1, 1, 1, 1, 0, 1, 0, 0, 1, 0, 1]) (by kernel_rfl) (decide (x26 < ((v11.length : Nat) : Int))) (by kernel_rfl) (fun b28 => ?_) (fun b28 => ?_)
    · replace hm := bif_t b28 hm
      refine R_skip (by kernel_rfl) ?_
      refine R_seq (nd Tryd.f21 [1, 1, 1, 1, 1, 1, 0, 1, 0, 0, 1, 1, 0]) (nd Tryd.f21 [1, 1, 1, 1, 1, 1, 0, 1, 0, 0, 1, 1, 1]) (by kernel_rfl) ?_
      refine R_block 1 (nd Tryd.f21 [1, 1, 1, 1, 1, 1, 0, 1, 0, 0, 1, 1, 0, 0]) (by kernel_rfl) ?_
      refine R_seq (nd Tryd.f21 [1, 1, 1, 1, 1, 1, 0, 1, 0, 0, 1, 1, 0, 0, 0]) (nd Tryd.f21 [1, 1, 1, 1, 1, 1, 0, 1, 0, 0, 1, 1, 0, 0, 1]) (by kernel_rfl) ?_
      refine R_region 11 (rg Tryd.f21 [1, 1, 1, 1, 1, 1, 0, 1, 0, 0, 1, 1, 0, 0, 0]) (by kernel_rfl) ?_
      have k29 : opsOk 121 (rg Tryd.f21 [1, 1, 1, 1, 1, 1, 0, 1, 0, 0, 1, 1, 0, 0, 0]) = true := by kernel_rfl
      refine P_op k29 (.v (.one (.val (.int .i64 x26)))) (by kernel_rfl) ?_
      obtain ⟨g30, hm⟩ := bif_n hm
      refine P_opc k29 (.v (.one (.rptr 2 0 1 x26.toNat 0))) (0 ≤ x26 ∧ x26 < ((v11.length : Nat) : Int)) (by kernel_rfl) (inb_of g30) ?_
      refine P_opc k29 (.v (.one (.val (.int .i64 (v11.getD x26.toNat default))))) (x26.toNat < v11.length) (by kernel_rfl) (toNat_lt (inb_of g30)) ?_
      refine P_op k29 (.v (.one (.val (.int .i64 x26)))) (by kernel_rfl) ?_
      refine P_op k29 (.v (.one (.val (.int .i64 (v11.getD x26.toNat default))))) (by kernel_rfl) ?_
      refine HOps_end (by kernel_rfl) ?_
      refine R_seq (nd Tryd.f21 [1, 1, 1, 1, 1, 1, 0, 1, 0, 0, 1, 1, 0, 0, 1, 0]) (nd Tryd.f21 [1, 1, 1, 1, 1, 1, 0, 1, 0, 0, 1, 1, 0, 0, 1, 1]) (by kernel_rfl) ?_
      obtain ⟨g31, hm⟩ := bif_n hm
      obtain ⟨g32, hm⟩ := bif_n hm
      obtain ⟨g33, hm⟩ := bif_n hm
      obtain ⟨g34, hm⟩ := bif_n hm
      refine R_draw 12 (rg Tryd.f21 [1, 1, 1, 1, 1, 1, 0, 1, 0, 0, 1, 1, 0, 0, 1, 0]) (by kernel_rfl) [⟨true, .v (.one (.bptr 1 0 1)), [], [], [2], []⟩, ⟨true, .v (.one (tl e_Reading default a1.Read)), [], [], [52], [1]⟩, ⟨true, .v (.one (.val (.int .i64 (v11.getD x26.toNat default)))), [], [], [12], []⟩, ⟨true, .v (.one (.lptr (e_Reading (a1.Read.getD (v11.getD x26.toNat default).toNat default)))), [], [], [53, 54], []⟩, ⟨true, .v (.one (.lptr (e_Reading (a1.Read.getD (v11.getD x26.toNat default).toNat default)))), [], [], [55], []⟩, ⟨true, .v (.agg [.val (.int .i64 (((a1.Read.getD (v11.getD x26.toNat default).toNat default).P).X)), .val (.int .i64 (((a1.Read.getD (v11.getD x26.toNat default).toNat default).P).Y))]), [], [], [56], []⟩, ⟨true, .v (.one (.bptr 1 0 1)), [], [], [2], []⟩, ⟨true, .v (.one (tl e_Reading default a1.Read)), [], [], [58], [1]⟩, ⟨true, .v (.one (.own 2 0 1 v11.length)), [], [], [7], []⟩, ⟨true, .v (.one (.val (.int .i64 x26))), [], [], [11], []⟩, ⟨true, .v (.one (.val (.int .i64 (w64 (x26 + 1))))), [], [], [61], []⟩, ⟨true, .v (.one (.own 2 0 1 v11.length)), [], [], [7], []⟩, ⟨true, .v (.one (.val (.int .i64 ((v11.length : Nat) : Int)))), [], [], [63], []⟩, ⟨true, .v (.one (.val (.int .i64 (Int.tmod (w64 (x26 + 1)) ((v11.length : Nat) : Int))))), [], [], [62, 64], []⟩, ⟨true, .v (.one (.rptr 2 0 1 ((Int.tmod (w64 (x26 + 1)) ((v11.length : Nat) : Int)).toNat) 0)), [], [], [60, 65], []⟩, ⟨true, .v (.one (.val (.int .i64 (v11.getD ((Int.tmod (w64 (x26 + 1)) ((v11.length : Nat) : Int)).toNat) default)))), [], [], [66], [2]⟩, ⟨true, .v (.one (.lptr (e_Reading (a1.Read.getD (v11.getD ((Int.tmod (w64 (x26 + 1)) ((v11.length : Nat) : Int)).toNat) default).toNat default)))), [], [], [59, 67], []⟩, ⟨true, .v (.one (.lptr (e_Reading (a1.Read.getD (v11.getD ((Int.tmod (w64 (x26 + 1)) ((v11.length : Nat) : Int)).toNat) default).toNat default)))), [], [], [68], []⟩, ⟨true, .v (.agg [.val (.int .i64 (((a1.Read.getD (v11.getD ((Int.tmod (w64 (x26 + 1)) ((v11.length : Nat) : Int)).toNat) default).toNat default).P).X)), .val (.int .i64 (((a1.Read.getD (v11.getD ((Int.tmod (w64 (x26 + 1)) ((v11.length : Nat) : Int)).toNat) default).toNat default).P).Y))]), [], [], [69], []⟩, ⟨true, .v (.one (.bptr 4 0 0)), [(4, 0)], [(4, (0, .box 38 [.val (.int .i64 0), .val (.int .i64 0)]))], [], []⟩, ⟨true, .v (.one (.bptr 5 0 0)), [(5, 0)], [(5, (0, .box 38 [.val (.int .i64 0), .val (.int .i64 0)]))], [], []⟩, ⟨true, .undef, [], [(4, (0, .box 38 [.val (.int .i64 (((a1.Read.getD (v11.getD x26.toNat default).toNat default).P).X)), .val (.int .i64 (((a1.Read.getD (v11.getD x26.toNat default).toNat default).P).Y))]))], [13, 57], [4]⟩, ⟨true, .undef, [], [(5, (0, .box 38 [.val (.int .i64 (((a1.Read.getD (v11.getD ((Int.tmod (w64 (x26 + 1)) ((v11.length : Nat) : Int)).toNat) default).toNat default).P).X)), .val (.int .i64 (((a1.Read.getD (v11.getD ((Int.tmod (w64 (x26 + 1)) ((v11.length : Nat) : Int)).toNat) default).toNat default).P).Y))]))], [14, 70], [5]⟩] [0, 1, 0, 7, 15, 31, 0, 64, 0, 0, 512, 0, 2048, 7680, 16128, 32512, 65472, 131008, 262080, 0, 0, 1572927, 4194303] (by kernel_rfl) (by kernel_rfl) (by kernel_rfl) (by kernel_rfl) (by kernel_rfl) (by kernel_rfl) ?_ ?_
      · refine A_pure (.v (.one (.bptr 1 0 1))) [2] [] (True) (by kernel_rfl) trivial ?_
        refine A_pure (.v (.one (tl e_Reading default a1.Read))) [52] [1] (True) (by kernel_rfl) trivial ?_
        refine A_pure (.v (.one (.val (.int .i64 (v11.getD x26.toNat default))))) [12] [] (True) (by kernel_rfl) trivial ?_
        refine A_pure (.v (.one (.lptr (e_Reading (a1.Read.getD (v11.getD x26.toNat default).toNat default))))) [53, 54] [] (0 ≤ (v11.getD x26.toNat default) ∧ (v11.getD x26.toNat default) < ((a1.Read.length : Nat) : Int)) (by kernel_rfl) (inb_of g31) ?_
        refine A_pure (.v (.one (.lptr (e_Reading (a1.Read.getD (v11.getD x26.toNat default).toNat default))))) [55] [] (True) (by kernel_rfl) trivial ?_
        refine A_pure (.v (.agg [.val (.int .i64 (((a1.Read.getD (v11.getD x26.toNat default).toNat default).P).X)), .val (.int .i64 (((a1.Read.getD (v11.getD x26.toNat default).toNat default).P).Y))])) [56] [] (True) (by kernel_rfl) trivial ?_
        refine A_pure (.v (.one (.bptr 1 0 1))) [2] [] (True) (by kernel_rfl) trivial ?_
        refine A_pure (.v (.one (tl e_Reading default a1.Read))) [58] [1] (True) (by kernel_rfl) trivial ?_
        refine A_pure (.v (.one (.own 2 0 1 v11.length))) [7] [] (True) (by kernel_rfl) trivial ?_
        refine A_pure (.v (.one (.val (.int .i64 x26)))) [11] [] (True) (by kernel_rfl) trivial ?_
        refine A_pure (.v (.one (.val (.int .i64 (w64 (x26 + 1)))))) [61] [] (True) (by kernel_rfl) trivial ?_
        refine A_pure (.v (.one (.own 2 0 1 v11.length))) [7] [] (True) (by kernel_rfl) trivial ?_
        refine A_pure (.v (.one (.val (.int .i64 ((v11.length : Nat) : Int))))) [63] [] (True) (by kernel_rfl) trivial ?_
        refine A_pure (.v (.one (.val (.int .i64 (Int.tmod (w64 (x26 + 1)) ((v11.length : Nat) : Int)))))) [62, 64] [] (((v11.length : Nat) : Int) ≠ (0 : Int)) (by kernel_rfl) (nz_of g32) ?_
        refine A_pure (.v (.one (.rptr 2 0 1 ((Int.tmod (w64 (x26 + 1)) ((v11.length : Nat) : Int)).toNat) 0))) [60, 65] [] (0 ≤ (Int.tmod (w64 (x26 + 1)) ((v11.length : Nat) : Int)) ∧ (Int.tmod (w64 (x26 + 1)) ((v11.length : Nat) : Int)) < ((v11.length : Nat) : Int)) (by kernel_rfl) (inb_of g33) ?_
        refine A_pure (.v (.one (.val (.int .i64 (v11.getD ((Int.tmod (w64 (x26 + 1)) ((v11.length : Nat) : Int)).toNat) default))))) [66] [2] (((Int.tmod (w64 (x26 + 1)) ((v11.length : Nat) : Int)).toNat) < v11.length) (by kernel_rfl) (toNat_lt (inb_of g33)) ?_
        refine A_pure (.v (.one (.lptr (e_Reading (a1.Read.getD (v11.getD ((Int.tmod (w64 (x26 + 1)) ((v11.length : Nat) : Int)).toNat) default).toNat default))))) [59, 67] [] (0 ≤ (v11.getD ((Int.tmod (w64 (x26 + 1)) ((v11.length : Nat) : Int)).toNat) default) ∧ (v11.getD ((Int.tmod (w64 (x26 + 1)) ((v11.length : Nat) : Int)).toNat) default) < ((a1.Read.length : Nat) : Int)) (by kernel_rfl) (inb_of g34) ?_
        refine A_pure (.v (.one (.lptr (e_Reading (a1.Read.getD (v11.getD ((Int.tmod (w64 (x26 + 1)) ((v11.length : Nat) : Int)).toNat) default).toNat default))))) [68] [] (True) (by kernel_rfl) trivial ?_
        refine A_pure (.v (.agg [.val (.int .i64 (((a1.Read.getD (v11.getD ((Int.tmod (w64 (x26 + 1)) ((v11.length : Nat) : Int)).toNat) default).toNat default).P).X)), .val (.int .i64 (((a1.Read.getD (v11.getD ((Int.tmod (w64 (x26 + 1)) ((v11.length : Nat) : Int)).toNat) default).toNat default).P).Y))])) [69] [] (True) (by kernel_rfl) trivial ?_
        refine A_run ⟨true, .v (.one (.bptr 4 0 0)), [(4, 0)], [(4, (0, .box 38 [.val (.int .i64 0), .val (.int .i64 0)]))], [], []⟩ (by kernel_rfl) (Step_alloc 38 4 0 [.val (.int .i64 0), .val (.int .i64 0)] (by kernel_rfl) (by kernel_rfl) (by kernel_rfl)) ?_
        refine A_run ⟨true, .v (.one (.bptr 5 0 0)), [(5, 0)], [(5, (0, .box 38 [.val (.int .i64 0), .val (.int .i64 0)]))], [], []⟩ (by kernel_rfl) (Step_alloc 38 5 0 [.val (.int .i64 0), .val (.int .i64 0)] (by kernel_rfl) (by kernel_rfl) (by kernel_rfl)) ?_
        refine A_run ⟨true, .undef, [], [(4, (0, .box 38 [.val (.int .i64 (((a1.Read.getD (v11.getD x26.toNat default).toNat default).P).X)), .val (.int .i64 (((a1.Read.getD (v11.getD x26.toNat default).toNat default).P).Y))]))], [13, 57], [4]⟩ (by kernel_rfl) (Step_store_box 38 (.tmp 13) (.tmp 57) 4 0 0 38 [.val (.int .i64 0), .val (.int .i64 0)] (.agg [.val (.int .i64 (((a1.Read.getD (v11.getD x26.toNat default).toNat default).P).X)), .val (.int .i64 (((a1.Read.getD (v11.getD x26.toNat default).toNat default).P).Y))]) [.val (.int .i64 (((a1.Read.getD (v11.getD x26.toNat default).toNat default).P).X)), .val (.int .i64 (((a1.Read.getD (v11.getD x26.toNat default).toNat default).P).Y))] (by kernel_rfl) (by kernel_rfl) (by kernel_rfl) (by kernel_rfl) (by kernel_rfl) (by kernel_rfl) (by kernel_rfl) (by kernel_rfl)) ?_
        refine A_run ⟨true, .undef, [], [(5, (0, .box 38 [.val (.int .i64 (((a1.Read.getD (v11.getD ((Int.tmod (w64 (x26 + 1)) ((v11.length : Nat) : Int)).toNat) default).toNat default).P).X)), .val (.int .i64 (((a1.Read.getD (v11.getD ((Int.tmod (w64 (x26 + 1)) ((v11.length : Nat) : Int)).toNat) default).toNat default).P).Y))]))], [14, 70], [5]⟩ (by kernel_rfl) (Step_store_box 38 (.tmp 14) (.tmp 70) 5 0 0 38 [.val (.int .i64 0), .val (.int .i64 0)] (.agg [.val (.int .i64 (((a1.Read.getD (v11.getD ((Int.tmod (w64 (x26 + 1)) ((v11.length : Nat) : Int)).toNat) default).toNat default).P).X)), .val (.int .i64 (((a1.Read.getD (v11.getD ((Int.tmod (w64 (x26 + 1)) ((v11.length : Nat) : Int)).toNat) default).toNat default).P).Y))]) [.val (.int .i64 (((a1.Read.getD (v11.getD ((Int.tmod (w64 (x26 + 1)) ((v11.length : Nat) : Int)).toNat) default).toNat default).P).X)), .val (.int .i64 (((a1.Read.getD (v11.getD ((Int.tmod (w64 (x26 + 1)) ((v11.length : Nat) : Int)).toNat) default).toNat default).P).Y))] (by kernel_rfl) (by kernel_rfl) (by kernel_rfl) (by kernel_rfl) (by kernel_rfl) (by kernel_rfl) (by kernel_rfl) (by kernel_rfl)) ?_
        exact A_end
      · refine R_seq (nd Tryd.f21 [1, 1, 1, 1, 1, 1, 0, 1, 0, 0, 1, 1, 0, 0, 1, 1, 0]) (nd Tryd.f21 [1, 1, 1, 1, 1, 1, 0, 1, 0, 0, 1, 1, 0, 0, 1, 1, 1]) (by kernel_rfl) ?_
        refine R_region 13 (rg Tryd.f21 [1, 1, 1, 1, 1, 1, 0, 1, 0, 0, 1, 1, 0, 0, 1, 1, 0]) (by kernel_rfl) ?_
        have k35 : opsOk 121 (rg Tryd.f21 [1, 1, 1, 1, 1, 1, 0, 1, 0, 0, 1, 1, 0, 0, 1, 1, 0]) = true := by kernel_rfl
        refine P_op k35 (.v (.one (.own 3 0 2 l25.length))) (by kernel_rfl) ?_
        refine P_op k35 (.v (.one (.val (.int .i64 (v11.getD x26.toNat default))))) (by kernel_rfl) ?_
        refine P_op k35 (.v (.agg [.val (.int .i64 (((a1.Read.getD (v11.getD x26.toNat default).toNat default).P).X)), .val (.int .i64 (((a1.Read.getD (v11.getD x26.toNat default).toNat default).P).Y))])) (by kernel_rfl) ?_
        obtain ⟨g36, hm⟩ := bif_n hm
        refine P_opc k35 (.v (.one (.rptr 3 0 2 ((v11.getD x26.toNat default).toNat) 0))) (0 ≤ (v11.getD x26.toNat default) ∧ (v11.getD x26.toNat default) < ((l25.length : Nat) : Int)) (by kernel_rfl) (inb_of g36) ?_
        refine P_write k35 ([(3, (0, .row 38 2 l25.length (rowf e_Point default (l25.set ((v11.getD x26.toNat default).toNat) ((a1.Read.getD (v11.getD x26.toNat default).toNat default).P)))))]) (.undef) (by kernel_rfl) (Step_store_row 38 (.tmp 74) (.tmp 73) 3 0 2 ((v11.getD x26.toNat default).toNat) 0 38 l25.length (rowf e_Point default l25) (rowf e_Point default (l25.set ((v11.getD x26.toNat default).toNat) ((a1.Read.getD (v11.getD x26.toNat default).toNat default).P))) (.agg [.val (.int .i64 (((a1.Read.getD (v11.getD x26.toNat default).toNat default).P).X)), .val (.int .i64 (((a1.Read.getD (v11.getD x26.toNat default).toNat default).P).Y))]) (by kernel_rfl) (by kernel_rfl) (by kernel_rfl) (by kernel_rfl) (by kernel_rfl) (by kernel_rfl) (by kernel_rfl) (by kernel_rfl) (toNat_lt (inb_of g36)) (rowf_set e_Point default ((a1.Read.getD (v11.getD x26.toNat default).toNat default).P) l25 l25.length ((v11.getD x26.toNat default).toNat) 0 [.val (.int .i64 (((a1.Read.getD (v11.getD x26.toNat default).toNat default).P).X)), .val (.int .i64 (((a1.Read.getD (v11.getD x26.toNat default).toNat default).P).Y))] rfl (by kernel_rfl))) ?_
        refine HOps_end (by kernel_rfl) ?_
        refine R_seq (nd Tryd.f21 [1, 1, 1, 1, 1, 1, 0, 1, 0, 0, 1, 1, 0, 0, 1, 1, 1, 0]) (nd Tryd.f21 [1, 1, 1, 1, 1, 1, 0, 1, 0, 0, 1, 1, 0, 0, 1, 1, 1, 1]) (by kernel_rfl) ?_
        refine R_region 14 (rg Tryd.f21 [1, 1, 1, 1, 1, 1, 0, 1, 0, 0, 1, 1, 0, 0, 1, 1, 1, 0]) (by kernel_rfl) ?_
        have k37 : opsOk 121 (rg Tryd.f21 [1, 1, 1, 1, 1, 1, 0, 1, 0, 0, 1, 1, 0, 0, 1, 1, 1, 0]) = true := by kernel_rfl
        refine P_op k37 (.v (.agg [.val (.int .i64 a1.Z), tl e_Reading default a1.Read])) (by kernel_rfl) ?_
        refine P_op k37 (.v (.one (.own 2 0 1 v11.length))) (by kernel_rfl) ?_
        refine P_op k37 (.v (.one (.val (.int .i64 x26)))) (by kernel_rfl) ?_
        obtain ⟨v38, h39, hm⟩ := bind_s hm
        refine P_step k37 (obNv 6 (ring_behind_o v38)) (obSh 6 (ring_behind_o v38)) ((ring_behind_x v38).sh 6) (by kernel_rfl) (Step_call_own (x := ring_behind_x v38) (ob := ring_behind_o v38) (f := 27) (args := [(.tmp 75), (.tmp 76), (.tmp 77)]) (fn := Tryd.f27) (ys := [.agg [.val (.int .i64 a1.Z), tl e_Reading default a1.Read], .one (.own 2 0 1 v11.length), .one (.val (.int .i64 x26))]) (zs := [.agg [.val (.int .i64 a1.Z), tl e_Reading default a1.Read], .one (.lst v11.length (rowf e_i64 default v11)), .one (.val (.int .i64 x26))]) (p := ((True ∧ (True ∧ True)) ∧ (v11.length ≤ v11.length ∧ (True ∧ True)))) 6 (by kernel_rfl) (by kernel_rfl) (by kernel_rfl) (by kernel_rfl) (by kernel_rfl) (by kernel_rfl) ⟨⟨trivial, ⟨trivial, trivial⟩⟩, ⟨(Nat.le_refl _), ⟨trivial, trivial⟩⟩⟩ rfl (ring_behind_ok a1 v11 x26 v38 h39) (by kernel_rfl) (by kernel_rfl) (by kernel_rfl) (ring_behind_f v38)) ?_
        refine P_op k37 (.v (.one (.val (.int .i64 v38)))) (by kernel_rfl) ?_
        refine HOps_end (by kernel_rfl) ?_
        refine R_seq (nd Tryd.f21 [1, 1, 1, 1, 1, 1, 0, 1, 0, 0, 1, 1, 0, 0, 1, 1, 1, 1, 0]) (nd Tryd.f21 [1, 1, 1, 1, 1, 1, 0, 1, 0, 0, 1, 1, 0, 0, 1, 1, 1, 1, 1]) (by kernel_rfl) ?_
        refine R_region 15 (rg Tryd.f21 [1, 1, 1, 1, 1, 1, 0, 1, 0, 0, 1, 1, 0, 0, 1, 1, 1, 1, 0]) (by kernel_rfl) ?_
        have k40 : opsOk 121 (rg Tryd.f21 [1, 1, 1, 1, 1, 1, 0, 1, 0, 0, 1, 1, 0, 0, 1, 1, 1, 1, 0]) = true := by kernel_rfl
        refine P_op k40 (.v (.one (.val (.int .i64 1)))) (by kernel_rfl) ?_
        refine HOps_end (by kernel_rfl) ?_
        obtain ⟨o53, h54, hm⟩ := bind_s hm
        refine R_loop0 (nd Tryd.f21 [1, 1, 1, 1, 1, 1, 0, 1, 0, 0, 1, 1, 0, 0, 1, 1, 1, 1, 1, 0, 0]) 2 (by kernel_rfl) FUEL (fun o => ring_Repair_L3_T a1 v11 x26 o) o53 (HL_enter (ring_Repair_L3_S a1 v11 x26 v38 (l25.set ((v11.getD x26.toNat default).toNat) ((a1.Read.getD (v11.getD x26.toNat default).toNat default).P)) l25.length 1) (by kernel_rfl) (by kernel_rfl) (ring_Repair_L3_ok w A hg a1 v11 x26 v38 FUEL (l25.set ((v11.getD x26.toNat default).toNat) ((a1.Read.getD (v11.getD x26.toNat default).toNat default).P)) l25.length 1 o53 (len_set rfl) h54)) ?_
        refine R_region 19 (rg Tryd.f21 [1, 1, 1, 1, 1, 1, 0, 1, 0, 0, 1, 1, 1]) (by kernel_rfl) ?_
        have k55 : opsOk 121 (rg Tryd.f21 [1, 1, 1, 1, 1, 1, 0, 1, 0, 0, 1, 1, 1]) = true := by kernel_rfl
        refine P_op k55 (.v (.one (.val (.int .i64 (w64 (x26 + 1)))))) (by kernel_rfl) ?_
        refine P_op k55 (.v (.one (.val (.int .i64 (w64 (x26 + 1)))))) (by kernel_rfl) ?_
        refine HOps_end (by kernel_rfl) ?_
        exact HL_enter (ring_Repair_L2_S a1 v11 o53 o53.length (w64 (x26 + 1))) (by kernel_rfl) (by kernel_rfl) (ih o53 o53.length (w64 (x26 + 1)) _ rfl hm)
    · replace hm := bif_f b28 hm
      refine R_exit 0 (by kernel_rfl) ?_
      obtain rfl := Option.some.inj hm
      exact L0_mk (by kernel_rfl) (by kernel_rfl)

set_option maxRecDepth 100000 in
theorem ring_Repair_ok (a1 : Ring) (a2 : Int) (r : (List Point) × Int) (hm : ring_Repair a1 a2 = some r) : Ct Tryd.prog globs 21 [.agg [.val (.int .i64 a1.Z), tl e_Reading default a1.Read], .one (.val (.int .i64 a2))] (ring_Repair_x r) (ring_Repair_o r) := by
  unfold ring_Repair at hm
  refine Ct_of_H (fn := Tryd.f21) (c := nd Tryd.f21 []) mixed (by kernel_rfl) (by kernel_rfl) (by kernel_rfl) fun w A hg => ?_
  show H ({ P := Tryd.prog, w0 := w, nt := 121, A := A, globs := globs, mixed := mixed, glob := hg } : Ctx) _ _ _
  refine R_seq (nd Tryd.f21 [0]) (nd Tryd.f21 [1]) (by kernel_rfl) ?_
  refine R_region 0 (rg Tryd.f21 [0]) (by kernel_rfl) ?_
  have k3 : opsOk 121 (rg Tryd.f21 [0]) = true := by kernel_rfl
  refine P_step k3 ([(1, 0)]) ([(1, (0, .box 24 [.val (.int .i64 a1.Z), tl e_Reading default a1.Read]))]) (.v (.one (.bptr 1 0 0))) (by kernel_rfl) (Step_box 24 (.tmp 0) 1 0 (.agg [.val (.int .i64 a1.Z), tl e_Reading default a1.Read]) (by kernel_rfl) (by kernel_rfl) (by kernel_rfl)) ?_
  refine P_op k3 (.v (.one (.emp))) (by kernel_rfl) ?_
  refine P_op k3 (.v (.one (.val (.int .i64 0)))) (by kernel_rfl) ?_
  refine HOps_end (by kernel_rfl) ?_
  refine R_seq (nd Tryd.f21 [1, 0]) (nd Tryd.f21 [1, 1]) (by kernel_rfl) ?_
  refine R_seq (nd Tryd.f21 [1, 0, 0]) (nd Tryd.f21 [1, 0, 1]) (by kernel_rfl) ?_
  refine R_region 1 (rg Tryd.f21 [1, 0, 0]) (by kernel_rfl) ?_
  have k4 : opsOk 121 (rg Tryd.f21 [1, 0, 0]) = true := by kernel_rfl
  refine P_op k4 (.v (.agg [.val (.int .i64 a1.Z), tl e_Reading default a1.Read])) (by kernel_rfl) ?_
  obtain ⟨v5, h6, hm⟩ := bind_s hm
  refine P_step k4 (obNv 2 (ring_Check_o v5)) (obSh 2 (ring_Check_o v5)) ((ring_Check_x v5).sh 2) (by kernel_rfl) (Step_call (x := ring_Check_x v5) (ob := ring_Check_o v5) (f := 14) (args := [(.tmp 17)]) (fn := Tryd.f14) (ys := [.agg [.val (.int .i64 a1.Z), tl e_Reading default a1.Read]]) 2 (by kernel_rfl) (by kernel_rfl) (by kernel_rfl) (by kernel_rfl) (by kernel_rfl) (by kernel_rfl) rfl (ring_Check_ok a1 v5 h6) (by kernel_rfl) (by kernel_rfl)) ?_
  refine P_op k4 (.v (.one (.val (.int .i64 v5)))) (by kernel_rfl) ?_
  refine HOps_end (by kernel_rfl) ?_
  refine R_seq (nd Tryd.f21 [1, 0, 1, 0]) (nd Tryd.f21 [1, 0, 1, 1]) (by kernel_rfl) ?_
  refine R_region 2 (rg Tryd.f21 [1, 0, 1, 0]) (by kernel_rfl) ?_
  have k7 : opsOk 121 (rg Tryd.f21 [1, 0, 1, 0]) = true := by kernel_rfl
  refine P_op k7 (.v (.one (.val (.int .i64 v5)))) (by kernel_rfl) ?_
  refine P_op k7 (.v (.one (.val (.bool (v5 != 0))))) (by kernel_rfl) ?_
  refine HOps_end (by kernel_rfl) ?_
  refine R_cond (.tmp 20) (nd Tryd.f21 [1, 0, 1, 1, 0]) (nd Tryd.f21 [1, 0, 1, 1, 1]) (by kernel_rfl) (v5 != 0) (by kernel_rfl) (fun b8 => ?_) (fun b8 => ?_)
  · replace hm := bif_t b8 hm
    refine R_seq (nd Tryd.f21 [1, 0, 1, 1, 0, 0]) (nd Tryd.f21 [1, 0, 1, 1, 0, 1]) (by kernel_rfl) ?_
    refine R_region 3 (rg Tryd.f21 [1, 0, 1, 1, 0, 0]) (by kernel_rfl) ?_
    have k9 : opsOk 121 (rg Tryd.f21 [1, 0, 1, 1, 0, 0]) = true := by kernel_rfl
    refine P_op k9 (.v (.one (.val (.int .i64 v5)))) (by kernel_rfl) ?_
    refine P_op k9 (.v (.one (.emp))) (by kernel_rfl) ?_
    refine P_op k9 (.v (.one (.val (.int .i64 v5)))) (by kernel_rfl) ?_
    refine HOps_end (by kernel_rfl) ?_
    refine H_own 4 6 38 2 (rowf e_Point default ([] : List Point)) (by kernel_rfl) ?_
    obtain rfl := Option.some.inj hm
    refine H_swap 6 0 ?_
    refine R_ret (by kernel_rfl) ?_
    show RetQ _ _ (ring_Repair_x (([] : List Point), v5)) (ring_Repair_o (([] : List Point), v5)) .ret _
    simp only [ring_Repair_x, ring_Repair_o, show ([] : List Point).length = 0 from rfl]
    exact ret_mk (by kernel_rfl) (by kernel_rfl)
  · replace hm := bif_f b8 hm
    refine R_skip (by kernel_rfl) ?_
    refine R_seq (nd Tryd.f21 [1, 1, 0]) (nd Tryd.f21 [1, 1, 1]) (by kernel_rfl) ?_
    refine R_region 4 (rg Tryd.f21 [1, 1, 0]) (by kernel_rfl) ?_
    have k10 : opsOk 121 (rg Tryd.f21 [1, 1, 0]) = true := by kernel_rfl
    refine P_op k10 (.v (.agg [.val (.int .i64 a1.Z), tl e_Reading default a1.Read])) (by kernel_rfl) ?_
    obtain ⟨v11, h12, hm⟩ := bind_s hm
    refine P_step k10 (obNv 2 (ring_measured_o v11)) (obSh 2 (ring_measured_o v11)) ((ring_measured_x v11).sh 2) (by kernel_rfl) (Step_call (x := ring_measured_x v11) (ob := ring_measured_o v11) (f := 26) (args := [(.tmp 22)]) (fn := Tryd.f26) (ys := [.agg [.val (.int .i64 a1.Z), tl e_Reading default a1.Read]]) 2 (by kernel_rfl) (by kernel_rfl) (by kernel_rfl) (by kernel_rfl) (by kernel_rfl) (by kernel_rfl) rfl (ring_measured_ok a1 v11 h12) (by kernel_rfl) (by kernel_rfl)) ?_
    refine P_op k10 (.v (.one (.own 2 0 1 v11.length))) (by kernel_rfl) ?_
    refine HOps_end (by kernel_rfl) ?_
    refine R_seq (nd Tryd.f21 [1, 1, 1, 0]) (nd Tryd.f21 [1, 1, 1, 1]) (by kernel_rfl) ?_
    refine R_region 5 (rg Tryd.f21 [1, 1, 1, 0]) (by kernel_rfl) ?_
    have k13 : opsOk 121 (rg Tryd.f21 [1, 1, 1, 0]) = true := by kernel_rfl
    refine P_op k13 (.v (.agg [.val (.int .i64 a1.Z), tl e_Reading default a1.Read])) (by kernel_rfl) ?_
    obtain ⟨v14, h15, hm⟩ := bind_s hm
    refine P_step k13 (obNv 3 (ring_Gaps_o v14)) (obSh 3 (ring_Gaps_o v14)) ((ring_Gaps_x v14).sh 3) (by kernel_rfl) (Step_call (x := ring_Gaps_x v14) (ob := ring_Gaps_o v14) (f := 12) (args := [(.tmp 25)]) (fn := Tryd.f12) (ys := [.agg [.val (.int .i64 a1.Z), tl e_Reading default a1.Read]]) 3 (by kernel_rfl) (by kernel_rfl) (by kernel_rfl) (by kernel_rfl) (by kernel_rfl) (by kernel_rfl) rfl (ring_Gaps_ok a1 v14 h15) (by kernel_rfl) (by kernel_rfl)) ?_
    refine P_op k13 (.tup [.one (.val (.int .i64 v14.1)), .one (.val (.int .i64 v14.2))]) (by kernel_rfl) ?_
    refine P_op k13 (.v (.one (.val (.int .i64 v14.1)))) (by kernel_rfl) ?_
    refine P_op k13 (.v (.one (.val (.int .i64 v14.2)))) (by kernel_rfl) ?_
    refine P_op k13 (.v (.one (.val (.int .i64 v14.1)))) (by kernel_rfl) ?_
    refine P_op k13 (.v (.one (.val (.int .i64 v14.2)))) (by kernel_rfl) ?_
    refine HOps_end (by kernel_rfl) ?_
    refine R_seq (nd Tryd.f21 [1, 1, 1, 1, 0]) (nd Tryd.f21 [1, 1, 1, 1, 1]) (by kernel_rfl) ?_
    refine R_join (ι := Bool) (nd Tryd.f21 [1, 1, 1, 1, 0, 0]) (nd Tryd.f21 [1, 1, 1, 1, 0, 1]) (by kernel_rfl) (fun p => ring_Repair_k1_S a1 v11 p) (fun p => ring_Repair_k1 a1 v11 p = some r) ?_ ?_
    · rintro x19 hm
      show H _ (ring_Repair_k1_S a1 v11 x19) (nd Tryd.f21 [1, 1, 1, 1, 0, 1]) _
      refine R_cond (.tmp 40) (nd Tryd.f21 [1, 1, 1, 1, 0, 1, 0]) (nd Tryd.f21 [1, 1, 1, 1, 0, 1, 1]) (by kernel_rfl) x19 (by kernel_rfl) (fun b20 => ?_) (fun b20 => ?_)
      · replace hm := bif_t b20 hm
        refine R_seq (nd Tryd.f21 [1, 1, 1, 1, 0, 1, 0, 0]) (nd Tryd.f21 [1, 1, 1, 1, 0, 1, 0, 1]) (by kernel_rfl) ?_
        refine R_region 7 (rg Tryd.f21 [1, 1, 1, 1, 0, 1, 0, 0]) (by kernel_rfl) ?_
        have k21 : opsOk 121 (rg Tryd.f21 [1, 1, 1, 1, 0, 1, 0, 0]) = true := by kernel_rfl
        refine P_op k21 (.v (.one (.emp))) (by kernel_rfl) ?_
        refine P_op k21 (.v (.one (.val (.int .i64 30)))) (by kernel_rfl) ?_
        refine HOps_end (by kernel_rfl) ?_
        refine H_own 4 7 38 2 (rowf e_Point default ([] : List Point)) (by kernel_rfl) ?_
        obtain rfl := Option.some.inj hm
        refine H_swap 7 0 ?_
        refine R_ret (by kernel_rfl) ?_
        show RetQ _ _ (ring_Repair_x (([] : List Point), 30)) (ring_Repair_o (([] : List Point), 30)) .ret _
        simp only [ring_Repair_x, ring_Repair_o, show ([] : List Point).length = 0 from rfl]
        exact ret_mk (by kernel_rfl) (by kernel_rfl)
      · replace hm := bif_f b20 hm
        refine R_skip (by kernel_rfl) ?_
        refine R_seq (nd Tryd.f21 [1, 1, 1, 1, 1, 0]) (nd Tryd.f21 [1, 1, 1, 1, 1, 1]) (by kernel_rfl) ?_
        refine R_region 8 (rg Tryd.f21 [1, 1, 1, 1, 1, 0]) (by kernel_rfl) ?_
        have k22 : opsOk 121 (rg Tryd.f21 [1, 1, 1, 1, 1, 0]) = true := by kernel_rfl
        refine P_op k22 (.v (.one (.bptr 1 0 1))) (by kernel_rfl) ?_
        refine P_op k22 (.v (.one (tl e_Reading default a1.Read))) (by kernel_rfl) ?_
        refine P_op k22 (.v (.one (.val (.int .i64 ((a1.Read.length : Nat) : Int))))) (by kernel_rfl) ?_
        obtain ⟨g23, hm⟩ := bif_n hm
        refine P_step k22 ([(3, 0)]) ([(3, (0, .row 38 2 (((a1.Read.length : Nat) : Int).toNat) (rowf e_Point default (List.replicate (((a1.Read.length : Nat) : Int).toNat) (Point.mk 0 0)))))]) (.v (.one (.own 3 0 2 (((a1.Read.length : Nat) : Int).toNat)))) (by kernel_rfl) (Step_make 34 38 (.tmp 43) (.tmp 43) 3 0 .i64 .i64 ((a1.Read.length : Nat) : Int) Tryd.t38 [.val (.int .i64 0), .val (.int .i64 0)] (by kernel_rfl) (by kernel_rfl) (by kernel_rfl) (by kernel_rfl) (by kernel_rfl) (by kernel_rfl) (by kernel_rfl) (by kernel_rfl) (by kernel_rfl) (mkOk_of g23).1 (mkOk_of g23).2.1 (mkOk_of g23).2.2 (rowf e_Point default (List.replicate (((a1.Read.length : Nat) : Int).toNat) (Point.mk 0 0))) (rowf_rep e_Point default (Point.mk 0 0) (((a1.Read.length : Nat) : Int).toNat) [.val (.int .i64 0), .val (.int .i64 0)] (by kernel_rfl))) ?_
        refine P_op k22 (.v (.one (.own 3 0 2 (((a1.Read.length : Nat) : Int).toNat)))) (by kernel_rfl) ?_
        refine HOps_end (by kernel_rfl) ?_
        refine R_seq (nd Tryd.f21 [1, 1, 1, 1, 1, 1, 0]) (nd Tryd.f21 [1, 1, 1, 1, 1, 1, 1]) (by kernel_rfl) ?_
        refine R_seq (nd Tryd.f21 [1, 1, 1, 1, 1, 1, 0, 0]) (nd Tryd.f21 [1, 1, 1, 1, 1, 1, 0, 1]) (by kernel_rfl) ?_
        refine R_region 9 (rg Tryd.f21 [1, 1, 1, 1, 1, 1, 0, 0]) (by kernel_rfl) ?_
        have k24 : opsOk 121 (rg Tryd.f21 [1, 1, 1, 1, 1, 1, 0, 0]) = true := by kernel_rfl
        refine P_op k24 (.v (.one (.own 2 0 1 v11.length))) (by kernel_rfl) ?_
        refine P_op k24 (.v (.one (.val (.int .i64 ((v11.length : Nat) : Int))))) (by kernel_rfl) ?_
        refine P_op k24 (.v (.one (.val (.int .i64 0)))) (by kernel_rfl) ?_
        refine HOps_end (by kernel_rfl) ?_
        obtain ⟨o57, h58, hm⟩ := bind_s hm
        refine R_loop0 (nd Tryd.f21 [1, 1, 1, 1, 1, 1, 0, 1, 0, 0]) 0 (by kernel_rfl) FUEL (fun o => ring_Repair_L2_T o) o57 (HL_enter (ring_Repair_L2_S a1 v11 (List.replicate (((a1.Read.length : Nat) : Int).toNat) (Point.mk 0 0)) (((a1.Read.length : Nat) : Int).toNat) 0) (by kernel_rfl) (by kernel_rfl) (ring_Repair_L2_ok w A hg a1 v11 FUEL (List.replicate (((a1.Read.length : Nat) : Int).toNat) (Point.mk 0 0)) (((a1.Read.length : Nat) : Int).toNat) 0 o57 len_rep h58)) ?_
        refine R_seq (nd Tryd.f21 [1, 1, 1, 1, 1, 1, 1, 0]) (nd Tryd.f21 [1, 1, 1, 1, 1, 1, 1, 1]) (by kernel_rfl) ?_
        refine R_region 20 (rg Tryd.f21 [1, 1, 1, 1, 1, 1, 1, 0]) (by kernel_rfl) ?_
        have k59 : opsOk 121 (rg Tryd.f21 [1, 1, 1, 1, 1, 1, 1, 0]) = true := by kernel_rfl
        refine P_op k59 (.v (.one (.own 3 0 2 o57.length))) (by kernel_rfl) ?_
        refine P_op k59 (.v (.one (.own 3 0 2 o57.length))) (by kernel_rfl) ?_
        refine P_op k59 (.v (.one (.val (.int .i64 0)))) (by kernel_rfl) ?_
        refine HOps_end (by kernel_rfl) ?_
        obtain rfl := Option.some.inj hm
        refine H_swap 3 0 ?_
        refine R_ret (by kernel_rfl) ?_
        exact ret_mk (by kernel_rfl) (by kernel_rfl)
    · refine R_region 6 (rg Tryd.f21 [1, 1, 1, 1, 0, 0]) (by kernel_rfl) ?_
      have k16 : opsOk 121 (rg Tryd.f21 [1, 1, 1, 1, 0, 0]) = true := by kernel_rfl
      refine P_op k16 (.v (.one (.own 2 0 1 v11.length))) (by kernel_rfl) ?_
      refine P_op k16 (.v (.one (.val (.int .i64 ((v11.length : Nat) : Int))))) (by kernel_rfl) ?_
      refine P_op k16 (.v (.one (.val (.bool (decide (((v11.length : Nat) : Int) < 3)))))) (by kernel_rfl) ?_
      refine P_op k16 (.v (.one (.val (.bool (decide (((v11.length : Nat) : Int) < 3)))))) (by kernel_rfl) ?_
      refine HOps_bool 32 (decide (((v11.length : Nat) : Int) < 3)) (by kernel_rfl) (fun b17 => ?_) (fun b17 => ?_)
      · replace hm := bif_t b17 hm
        refine P_skip k16 (by kernel_rfl) ?_
        refine P_skip k16 (by kernel_rfl) ?_
        refine P_skip k16 (by kernel_rfl) ?_
        refine P_skip k16 (by kernel_rfl) ?_
        refine P_skip k16 (by kernel_rfl) ?_
        refine P_skip k16 (by kernel_rfl) ?_
        refine P_skip k16 (by kernel_rfl) ?_
        refine P_op k16 (.v (.one (.val (.bool true)))) (by kernel_rfl) ?_
        refine HOps_end (by kernel_rfl) ?_
        exact J_mk (true) hm (by kernel_rfl) (by kernel_rfl)
      · replace hm := bif_f b17 hm
        refine P_op k16 (.v (.one (.val (.int .i64 v14.1)))) (by kernel_rfl) ?_
        refine P_op k16 (.v (.one (.val (.bool (decide (v14.1 > 0)))))) (by kernel_rfl) ?_
        refine P_op k16 (.v (.one (.val (.bool (decide (v14.1 > 0)))))) (by kernel_rfl) ?_
        refine HOps_bool 35 (decide (v14.1 > 0)) (by kernel_rfl) (fun b18 => ?_) (fun b18 => ?_)
        · replace hm := bif_t b18 hm
          refine P_op k16 (.v (.one (.val (.int .i64 v14.2)))) (by kernel_rfl) ?_
          refine P_op k16 (.v (.one (.val (.int .i64 a2)))) (by kernel_rfl) ?_
          refine P_op k16 (.v (.one (.val (.bool (decide (v14.2 > a2)))))) (by kernel_rfl) ?_
          refine P_op k16 (.v (.one (.val (.bool (decide (v14.2 > a2)))))) (by kernel_rfl) ?_
          refine P_op k16 (.v (.one (.val (.bool (decide (v14.2 > a2)))))) (by kernel_rfl) ?_
          refine HOps_end (by kernel_rfl) ?_
          exact J_mk (decide (v14.2 > a2)) hm (by kernel_rfl) (by kernel_rfl)
        · replace hm := bif_f b18 hm
          refine P_skip k16 (by kernel_rfl) ?_
          refine P_skip k16 (by kernel_rfl) ?_
          refine P_skip k16 (by kernel_rfl) ?_
          refine P_op k16 (.v (.one (.val (.bool false)))) (by kernel_rfl) ?_
          refine P_op k16 (.v (.one (.val (.bool false)))) (by kernel_rfl) ?_
          refine HOps_end (by kernel_rfl) ?_
          exact J_mk (false) hm (by kernel_rfl) (by kernel_rfl)

end Saw
end Go.SL

namespace Go.SL
namespace Saw
open Go.Proofs
set_option maxHeartbeats 4000000

def slices_Clone_Reading_x (r : List Reading) : V := .v (.one (.own 0 0 3 r.length))

def slices_Clone_Reading_o (r : List Reading) : List (Nat × (Nat × O)) := [(0, (0, .row 44 3 r.length (rowf e_Reading default r)))]

theorem slices_Clone_Reading_f (r : List Reading) : Frozen (slices_Clone_Reading_o r) := by
  intro i k o h
  unfold slices_Clone_Reading_o at h
  rw [look_cons] at h
  split at h
  · cases h; exact fun _ _ => rfl
  · cases h

set_option maxRecDepth 100000 in
theorem slices_Clone_Reading_ok (a1 r : List Reading) (hm : slices_Clone_Reading a1 = some r) : Ct Tryd.prog globs 40 [.one (tl e_Reading default a1)] (slices_Clone_Reading_x r) (slices_Clone_Reading_o r) := by
  unfold slices_Clone_Reading at hm
  obtain ⟨g1, hm⟩ := bif_n hm
  obtain rfl := Option.some.inj hm
  refine Ct_of_H (fn := Tryd.f40) (c := nd Tryd.f40 []) mixed (by kernel_rfl) (by kernel_rfl) (by kernel_rfl) fun w A hg => ?_
  show H ({ P := Tryd.prog, w0 := w, nt := 8, A := A, globs := globs, mixed := mixed, glob := hg } : Ctx) _ _ _
  refine R_seq (nd Tryd.f40 [0]) (nd Tryd.f40 [1]) (by kernel_rfl) ?_
  refine R_region 0 (rg Tryd.f40 [0]) (by kernel_rfl) ?_
  have k1 : opsOk 8 (rg Tryd.f40 [0]) = true := by kernel_rfl
  refine P_op k1 (.v (.one (.emp))) (by kernel_rfl) ?_
  refine HOps_end (by kernel_rfl) ?_
  refine R_seq (nd Tryd.f40 [1, 0]) (nd Tryd.f40 [1, 1]) (by kernel_rfl) ?_
  refine R_seq (nd Tryd.f40 [1, 0, 0]) (nd Tryd.f40 [1, 0, 1]) (by kernel_rfl) ?_
  refine R_region 1 (rg Tryd.f40 [1, 0, 0]) (by kernel_rfl) ?_
  have k2 : opsOk 8 (rg Tryd.f40 [1, 0, 0]) = true := by kernel_rfl
  refine P_op k2 (.v (.one (tl e_Reading default a1))) (by kernel_rfl) ?_
  refine HOps_nil k2 22 22 44 (.tmp 3) a1.length (rowf e_Reading default a1) (by kernel_rfl) (fun b hb => ?_)
  refine HOps_end (by kernel_rfl) ?_
  refine R_cond (.tmp 4) (nd Tryd.f40 [1, 0, 1, 0]) (nd Tryd.f40 [1, 0, 1, 1]) (by kernel_rfl) b (by kernel_rfl) (fun b6 => ?_) (fun b6 => ?_)
  · obtain rfl : a1 = [] := List.eq_nil_of_length_eq_zero (hb b6)
    refine R_seq (nd Tryd.f40 [1, 0, 1, 0, 0]) (nd Tryd.f40 [1, 0, 1, 0, 1]) (by kernel_rfl) ?_
    refine R_region 2 (rg Tryd.f40 [1, 0, 1, 0, 0]) (by kernel_rfl) ?_
    have k3 : opsOk 8 (rg Tryd.f40 [1, 0, 1, 0, 0]) = true := by kernel_rfl
    refine P_op k3 (.v (.one (.emp))) (by kernel_rfl) ?_
    refine HOps_end (by kernel_rfl) ?_
    refine H_own 2 0 44 3 (rowf e_Reading default []) (by kernel_rfl) ?_
    refine R_ret (by kernel_rfl) ?_
    exact ret_mk (by kernel_rfl) (by kernel_rfl)
  · refine R_skip (by kernel_rfl) ?_
    refine R_seq (nd Tryd.f40 [1, 1, 0]) (nd Tryd.f40 [1, 1, 1]) (by kernel_rfl) ?_
    refine R_region 3 (rg Tryd.f40 [1, 1, 0]) (by kernel_rfl) ?_
    have k4 : opsOk 8 (rg Tryd.f40 [1, 1, 0]) = true := by kernel_rfl
    refine P_step k4 [(0, 0)] [(0, (0, .row 44 3 0 (rowf e_Reading default ([] : List Reading))))] (.v (.one (.own 0 0 3 0))) (by kernel_rfl) (Step_lit 22 44 0 #[] 0 0 Tryd.t44 [.val (.int .i64 0), .val (.int .i64 0), .val (.bool false)] [] [] (by kernel_rfl) (by kernel_rfl) (by kernel_rfl) (by kernel_rfl) (by kernel_rfl) (by kernel_rfl) (by kernel_rfl) (by kernel_rfl) (by kernel_rfl) (by kernel_rfl) (by kernel_rfl) (rowf e_Reading default ([] : List Reading)) lit_zero) ?_
    refine P_op k4 (.v (.one (tl e_Reading default a1))) (by kernel_rfl) ?_
    refine P_step k4 [(0, 1)] [(0, (1, .row 44 3 (0 + a1.length) (rowf e_Reading default ([] ++ a1))))] (.v (.one (.own 0 1 3 (0 + a1.length)))) (by kernel_rfl) (Step_append (.tmp 5) (.tmp 6) 22 44 0 0 1 0 0 a1.length Tryd.t44 (.agg #[.int .i64 0, .int .i64 0, .bool false]) (rowf e_Reading default ([] : List Reading)) (rowf e_Reading default a1) (rowf e_Reading default ([] ++ a1)) (.one (tl e_Reading default a1)) True (by kernel_rfl) (by kernel_rfl) (by kernel_rfl) (by kernel_rfl) (by kernel_rfl) (by kernel_rfl) (by kernel_rfl) (by kernel_rfl) (by kernel_rfl) (by kernel_rfl) (by kernel_rfl) trivial (fun _ _ => by kernel_rfl) (Nat.le_refl _) (by have := room_of g1; rw [Nat.zero_add]; exact this) (rowf_app e_Reading default [] a1 0 a1.length rfl rfl)) ?_
    refine P_op k4 (.v (.one (.own 0 1 3 (0 + a1.length)))) (by kernel_rfl) ?_
    refine HOps_end (by kernel_rfl) ?_
    refine R_ret (by kernel_rfl) ?_
    show RetQ _ _ (slices_Clone_Reading_x a1) (slices_Clone_Reading_o a1) .ret _
    simp only [Nat.zero_add, List.nil_append]
    exact ret_mk (by kernel_rfl) (by kernel_rfl)

end Saw
end Go.SL

namespace Go.SL
namespace Saw
open Go.Proofs
set_option maxHeartbeats 4000000

def ring_clone_x (r : Ring) : V := .v (.agg [.val (.int .i64 r.Z), .own 0 0 3 r.Read.length])

def ring_clone_o (r : Ring) : List (Nat × (Nat × O)) := [(0, (0, .row 44 3 r.Read.length (rowf e_Reading default r.Read)))]

theorem ring_clone_f (r : Ring) : Frozen (ring_clone_o r) := by
  intro i k o h
  unfold ring_clone_o at h
  rw [look_cons] at h
  split at h
  · cases h; exact fun _ _ => rfl
  · cases h

set_option maxRecDepth 100000 in
theorem ring_clone_ok (a1 : Ring) (r : Ring) (hm : ring_clone a1 = some r) : Ct Tryd.prog globs 30 [.agg [.val (.int .i64 a1.Z), tl e_Reading default a1.Read]] (ring_clone_x r) (ring_clone_o r) := by
  unfold ring_clone at hm
  refine Ct_of_H (fn := Tryd.f30) (c := nd Tryd.f30 []) mixed (by kernel_rfl) (by kernel_rfl) (by kernel_rfl) fun w A hg => ?_
  show H ({ P := Tryd.prog, w0 := w, nt := 9, A := A, globs := globs, mixed := mixed, glob := hg } : Ctx) _ _ _
  refine R_seq (nd Tryd.f30 [0]) (nd Tryd.f30 [1]) (by kernel_rfl) ?_
  refine R_region 0 (rg Tryd.f30 [0]) (by kernel_rfl) ?_
  have k2 : opsOk 9 (rg Tryd.f30 [0]) = true := by kernel_rfl
  refine P_step k2 ([(1, 0)]) ([(1, (0, .box 24 [.val (.int .i64 a1.Z), tl e_Reading default a1.Read]))]) (.v (.one (.bptr 1 0 0))) (by kernel_rfl) (Step_box 24 (.tmp 0) 1 0 (.agg [.val (.int .i64 a1.Z), tl e_Reading default a1.Read]) (by kernel_rfl) (by kernel_rfl) (by kernel_rfl)) ?_
  refine P_step k2 ([(2, 0)]) ([(2, (0, .box 24 [.val (.int .i64 0), .emp]))]) (.v (.one (.bptr 2 0 0))) (by kernel_rfl) (Step_alloc 24 2 0 [.val (.int .i64 0), .emp] (by kernel_rfl) (by kernel_rfl) (by kernel_rfl)) ?_
  refine HOps_end (by kernel_rfl) ?_
  refine R_seq (nd Tryd.f30 [1, 0]) (nd Tryd.f30 [1, 1]) (by kernel_rfl) ?_
  obtain ⟨v3, h4, hm⟩ := bind_s hm
  refine R_draw 1 (rg Tryd.f30 [1, 0]) (by kernel_rfl) [⟨true, .v (.one (.bptr 1 0 0)), [], [], [1], []⟩, ⟨true, .v (.one (.val (.int .i64 a1.Z))), [], [], [3], [1]⟩, ⟨true, .v (.one (.bptr 1 0 1)), [], [], [1], []⟩, ⟨true, .v (.one (tl e_Reading default a1.Read)), [], [], [5], [1]⟩, ⟨true, (slices_Clone_Reading_x v3).sh 3, obNv 3 (slices_Clone_Reading_o v3), obSh 3 (slices_Clone_Reading_o v3), [6], []⟩, ⟨true, .v (.agg [.val (.int .i64 a1.Z), .own 3 0 3 v3.length]), [], [], [4, 7], []⟩, ⟨true, .undef, [], [(2, (0, .box 24 [.val (.int .i64 a1.Z), .own 3 0 3 v3.length]))], [2, 8], [2]⟩] [0, 1, 0, 4, 12, 31, 63] (by kernel_rfl) (by kernel_rfl) (by kernel_rfl) (by kernel_rfl) (by kernel_rfl) (by kernel_rfl) ?_ ?_
  · refine A_pure (.v (.one (.bptr 1 0 0))) [1] [] (True) (by kernel_rfl) trivial ?_
    refine A_pure (.v (.one (.val (.int .i64 a1.Z)))) [3] [1] (True) (by kernel_rfl) trivial ?_
    refine A_pure (.v (.one (.bptr 1 0 1))) [1] [] (True) (by kernel_rfl) trivial ?_
    refine A_pure (.v (.one (tl e_Reading default a1.Read))) [5] [1] (True) (by kernel_rfl) trivial ?_
    refine A_run ⟨true, (slices_Clone_Reading_x v3).sh 3, obNv 3 (slices_Clone_Reading_o v3), obSh 3 (slices_Clone_Reading_o v3), [6], []⟩ (by kernel_rfl) (Step_call (x := slices_Clone_Reading_x v3) (ob := slices_Clone_Reading_o v3) (f := 40) (args := [(.tmp 6)]) (fn := Tryd.f40) (ys := [.one (tl e_Reading default a1.Read)]) 3 (by kernel_rfl) (by kernel_rfl) (by kernel_rfl) (by kernel_rfl) (by kernel_rfl) (by kernel_rfl) rfl (slices_Clone_Reading_ok a1.Read v3 h4) (by kernel_rfl) (by kernel_rfl)) ?_
    refine A_pure (.v (.agg [.val (.int .i64 a1.Z), .own 3 0 3 v3.length])) [4, 7] [] (True) (by kernel_rfl) trivial ?_
    refine A_run ⟨true, .undef, [], [(2, (0, .box 24 [.val (.int .i64 a1.Z), .own 3 0 3 v3.length]))], [2, 8], [2]⟩ (by kernel_rfl) (Step_store_box 24 (.tmp 2) (.tmp 8) 2 0 0 24 [.val (.int .i64 0), .emp] (.agg [.val (.int .i64 a1.Z), .own 3 0 3 v3.length]) [.val (.int .i64 a1.Z), .own 3 0 3 v3.length] (by kernel_rfl) (by kernel_rfl) (by kernel_rfl) (by kernel_rfl) (by kernel_rfl) (by kernel_rfl) (by kernel_rfl) (by kernel_rfl)) ?_
    exact A_end
  · obtain rfl := Option.some.inj hm
    refine H_swap 3 0 ?_
    refine R_ret (by kernel_rfl) ?_
    exact ret_mk (by kernel_rfl) (by kernel_rfl)

end Saw
end Go.SL

namespace Go.SL
namespace Saw
open Go.Proofs
set_option maxHeartbeats 4000000

def ring_Merge_x (r : Ring × Int) : V := .tup [.agg [.val (.int .i64 r.1.Z), .own 0 0 3 r.1.Read.length], .one (.val (.int .i64 r.2))]

def ring_Merge_o (r : Ring × Int) : List (Nat × (Nat × O)) := [(0, (0, .row 44 3 r.1.Read.length (rowf e_Reading default r.1.Read)))]

theorem ring_Merge_f (r : Ring × Int) : Frozen (ring_Merge_o r) := by
  intro i k o h
  unfold ring_Merge_o at h
  rw [look_cons] at h
  split at h
  · cases h; exact fun _ _ => rfl
  · cases h

def ring_Merge_k3_S (a1 : Ring) (a2 : Ring) (v22 : Ring) (x25 : Int) (l35 : List Reading) (l35n : Nat) : St :=
  { slots := [(3, .v (.one (.bptr 2 0 0))), (4, .v (.one (.bptr 3 0 0))), (8, .v (.one (.bptr 5 0 0))), (41, .v (.one (tl e_Reading default a1.Read))), (42, .v (.one (.val (.int .i64 ((a1.Read.length : Nat) : Int))))), (43, .v (.one (.val (.int .i64 x25))))], objs := [(2, (0, .box 24 [.val (.int .i64 a2.Z), tl e_Reading default a2.Read])), (3, (0, .box 24 [.val (.int .i64 0), .emp])), (4, (0, .row 44 3 l35n (rowf e_Reading default l35))), (5, (0, .box 24 [.val (.int .i64 v22.Z), .own 4 0 3 l35n]))] }

def ring_Merge_L2_S (a1 : Ring) (a2 : Ring) (v22 : Ring) (x25 : Int) (l26 : List Reading) (l26n : Nat) : St :=
  { slots := [(3, .v (.one (.bptr 2 0 0))), (4, .v (.one (.bptr 3 0 0))), (8, .v (.one (.bptr 5 0 0))), (41, .v (.one (tl e_Reading default a1.Read))), (42, .v (.one (.val (.int .i64 ((a1.Read.length : Nat) : Int))))), (43, .v (.one (.val (.int .i64 x25))))], objs := [(2, (0, .box 24 [.val (.int .i64 a2.Z), tl e_Reading default a2.Read])), (3, (0, .box 24 [.val (.int .i64 0), .emp])), (4, (0, .row 44 3 l26n (rowf e_Reading default l26))), (5, (0, .box 24 [.val (.int .i64 v22.Z), .own 4 0 3 l26n]))] }

def ring_Merge_L2_T (v22 : Ring) (l37 : List Reading) : St :=
  { slots := [(4, .v (.one (.bptr 3 0 0))), (8, .v (.one (.bptr 5 0 0)))], objs := [(3, (0, .box 24 [.val (.int .i64 0), .emp])), (4, (0, .row 44 3 l37.length (rowf e_Reading default l37))), (5, (0, .box 24 [.val (.int .i64 v22.Z), .own 4 0 3 l37.length]))] }

def ring_Merge_k1_S (a1 : Ring) (a2 : Ring) (x18 : Bool) : St :=
  { slots := [(2, .v (.one (.bptr 1 0 0))), (3, .v (.one (.bptr 2 0 0))), (4, .v (.one (.bptr 3 0 0))), (36, .v (.one (.val (.bool x18))))], objs := [(1, (0, .box 24 [.val (.int .i64 a1.Z), tl e_Reading default a1.Read])), (2, (0, .box 24 [.val (.int .i64 a2.Z), tl e_Reading default a2.Read])), (3, (0, .box 24 [.val (.int .i64 0), .emp]))] }

set_option maxRecDepth 100000 in
theorem ring_Merge_L2_ok (w : World) (A : Nat → Prop) (hg : Globs globs w A) (a1 : Ring) (a2 : Ring) (v22 : Ring) : ∀ (n : Nat) (x25 : Int) (l26 : List Reading) (l26n : Nat) (res : (List Reading)), l26.length = l26n → ring_Merge_L2 a1 a2 n x25 l26 = some res → HL ({ P := Tryd.prog, w0 := w, nt := 62, A := A, globs := globs, mixed := mixed, glob := hg } : Ctx) (nd Tryd.f23 [1, 1, 1, 1, 1, 0, 1, 0, 0]) (loopQ0 0 (fun o => ring_Merge_L2_T v22 o) res) n (ring_Merge_L2_S a1 a2 v22 x25 l26 l26n) := by
  intro n
  induction n with
  | zero =>
    intro x25 l26 l26n res hl0 hm
    cases hm
  | succ n ih =>
    intro x25 l26 l26n res hl0 hm
    subst hl0
    refine HL_succ ?_
    refine R_seq (nd Tryd.f23 [1, 1, 1, 1, 1, 0, 1, 0, 0, 0]) (nd Tryd.f23 [1, 1, 1, 1, 1, 0, 1, 0, 0, 1]) (by kernel_rfl) ?_
    refine R_region 11 (rg Tryd.f23 [1, 1, 1, 1, 1, 0, 1, 0, 0, 0]) (by kernel_rfl) ?_
    have k27 : opsOk 62 (rg Tryd.f23 [1, 1, 1, 1, 1, 0, 1, 0, 0, 0]) = true := by kernel_rfl
    refine P_op k27 (.v (.one (.val (.bool (decide (x25 < ((a1.Read.length : Nat) : Int))))))) (by kernel_rfl) ?_
    refine HOps_end (by kernel_rfl) ?_
    refine R_seq (nd Tryd.f23 [1, 1, 1, 1, 1, 0, 1, 0, 0, 1, 0]) (nd Tryd.f23 [1, 1, 1, 1, 1, 0, 1, 0, 0, 1, 1]) (by kernel_rfl) ?_
    refine R_cond (.tmp 44) (nd Tryd.f23 [1, 1, 1, 1, 1, 0, 1, 0, 0, 1, 0, 0]) (nd Tryd.f23 [1, 1, 1, 1, 1, 0, 1, 0, 0, 1, 0, 1]) (by kernel_rfl) (decide (x25 < ((a1.Read.length : Nat) : Int))) (by kernel_rfl) (fun b28 => ?_) (fun b28 => ?_)
    · replace hm := bif_t b28 hm
      refine R_skip (by kernel_rfl) ?_
      refine R_join (ι := (List Reading) × Nat) (nd Tryd.f23 [1, 1, 1, 1, 1, 0, 1, 0, 0, 1, 1, 0]) (nd Tryd.f23 [1, 1, 1, 1, 1, 0, 1, 0, 0, 1, 1, 1]) (by kernel_rfl) (fun p => ring_Merge_k3_S a1 a2 v22 x25 p.1 p.2) (fun p => p.1.length = p.2 ∧ ring_Merge_k3 x25 (ring_Merge_L2 a1 a2 n) p.1 = some res) ?_ ?_
      · rintro ⟨l35, l35n⟩ ⟨el35, hm⟩
        replace el35 : l35.length = l35n := el35
        subst el35
        show H _ (ring_Merge_k3_S a1 a2 v22 x25 l35 l35.length) (nd Tryd.f23 [1, 1, 1, 1, 1, 0, 1, 0, 0, 1, 1, 1]) _
        refine R_region 15 (rg Tryd.f23 [1, 1, 1, 1, 1, 0, 1, 0, 0, 1, 1, 1]) (by kernel_rfl) ?_
        have k36 : opsOk 62 (rg Tryd.f23 [1, 1, 1, 1, 1, 0, 1, 0, 0, 1, 1, 1]) = true := by kernel_rfl
        refine P_op k36 (.v (.one (.val (.int .i64 (w64 (x25 + 1)))))) (by kernel_rfl) ?_
        refine P_op k36 (.v (.one (.val (.int .i64 (w64 (x25 + 1)))))) (by kernel_rfl) ?_
        refine HOps_end (by kernel_rfl) ?_
        exact HL_enter (ring_Merge_L2_S a1 a2 v22 (w64 (x25 + 1)) l35 l35.length) (by kernel_rfl) (by kernel_rfl) (ih (w64 (x25 + 1)) l35 l35.length _ rfl hm)
      · refine R_block 1 (nd Tryd.f23 [1, 1, 1, 1, 1, 0, 1, 0, 0, 1, 1, 0, 0]) (by kernel_rfl) ?_
        refine R_seq (nd Tryd.f23 [1, 1, 1, 1, 1, 0, 1, 0, 0, 1, 1, 0, 0, 0]) (nd Tryd.f23 [1, 1, 1, 1, 1, 0, 1, 0, 0, 1, 1, 0, 0, 1]) (by kernel_rfl) ?_
        refine R_region 12 (rg Tryd.f23 [1, 1, 1, 1, 1, 0, 1, 0, 0, 1, 1, 0, 0, 0]) (by kernel_rfl) ?_
        have k29 : opsOk 62 (rg Tryd.f23 [1, 1, 1, 1, 1, 0, 1, 0, 0, 1, 1, 0, 0, 0]) = true := by kernel_rfl
        refine P_op k29 (.v (.one (.val (.int .i64 x25)))) (by kernel_rfl) ?_
        obtain ⟨g30, hm⟩ := bif_n hm
        refine P_opc k29 (.v (.one (.lptr (e_Reading (a1.Read.getD x25.toNat default))))) (0 ≤ x25 ∧ x25 < ((a1.Read.length : Nat) : Int)) (by kernel_rfl) (inb_of g30) ?_
        refine P_op k29 (.v (.agg [.val (.int .i64 (((a1.Read.getD x25.toNat default).P).X)), .val (.int .i64 (((a1.Read.getD x25.toNat default).P).Y)), .val (.bool ((a1.Read.getD x25.toNat default).Ok))])) (by kernel_rfl) ?_
        refine P_step k29 ([(6, 0)]) ([(6, (0, .box 44 [.val (.int .i64 0), .val (.int .i64 0), .val (.bool false)]))]) (.v (.one (.bptr 6 0 0))) (by kernel_rfl) (Step_alloc 44 6 0 [.val (.int .i64 0), .val (.int .i64 0), .val (.bool false)] (by kernel_rfl) (by kernel_rfl) (by kernel_rfl)) ?_
        refine P_op k29 (.v (.one (.val (.int .i64 x25)))) (by kernel_rfl) ?_
        refine P_write k29 ([(6, (0, .box 44 [.val (.int .i64 (((a1.Read.getD x25.toNat default).P).X)), .val (.int .i64 (((a1.Read.getD x25.toNat default).P).Y)), .val (.bool ((a1.Read.getD x25.toNat default).Ok))]))]) (.undef) (by kernel_rfl) (Step_store_box 44 (.tmp 10) (.tmp 47) 6 0 0 44 [.val (.int .i64 0), .val (.int .i64 0), .val (.bool false)] (.agg [.val (.int .i64 (((a1.Read.getD x25.toNat default).P).X)), .val (.int .i64 (((a1.Read.getD x25.toNat default).P).Y)), .val (.bool ((a1.Read.getD x25.toNat default).Ok))]) [.val (.int .i64 (((a1.Read.getD x25.toNat default).P).X)), .val (.int .i64 (((a1.Read.getD x25.toNat default).P).Y)), .val (.bool ((a1.Read.getD x25.toNat default).Ok))] (by kernel_rfl) (by kernel_rfl) (by kernel_rfl) (by kernel_rfl) (by kernel_rfl) (by kernel_rfl) (by kernel_rfl) (by kernel_rfl)) ?_
        refine HOps_end (by kernel_rfl) ?_
        refine R_seq (nd Tryd.f23 [1, 1, 1, 1, 1, 0, 1, 0, 0, 1, 1, 0, 0, 1, 0]) (nd Tryd.f23 [1, 1, 1, 1, 1, 0, 1, 0, 0, 1, 1, 0, 0, 1, 1]) (by kernel_rfl) ?_
        refine R_region 13 (rg Tryd.f23 [1, 1, 1, 1, 1, 0, 1, 0, 0, 1, 1, 0, 0, 1, 0]) (by kernel_rfl) ?_
        have k31 : opsOk 62 (rg Tryd.f23 [1, 1, 1, 1, 1, 0, 1, 0, 0, 1, 1, 0, 0, 1, 0]) = true := by kernel_rfl
        refine P_op k31 (.v (.one (.bptr 6 0 2))) (by kernel_rfl) ?_
        refine P_op k31 (.v (.one (.val (.bool ((a1.Read.getD x25.toNat default).Ok))))) (by kernel_rfl) ?_
        refine P_op k31 (.v (.one (.val (.bool (!((a1.Read.getD x25.toNat default).Ok)))))) (by kernel_rfl) ?_
        refine HOps_end (by kernel_rfl) ?_
        refine R_cond (.tmp 50) (nd Tryd.f23 [1, 1, 1, 1, 1, 0, 1, 0, 0, 1, 1, 0, 0, 1, 1, 0]) (nd Tryd.f23 [1, 1, 1, 1, 1, 0, 1, 0, 0, 1, 1, 0, 0, 1, 1, 1]) (by kernel_rfl) (!((a1.Read.getD x25.toNat default).Ok)) (by kernel_rfl) (fun b32 => ?_) (fun b32 => ?_)
        · replace hm := bif_t b32 hm
          obtain ⟨g33, hm⟩ := bif_n hm
          obtain ⟨g34, hm⟩ := bif_n hm
          refine R_draw 14 (rg Tryd.f23 [1, 1, 1, 1, 1, 0, 1, 0, 0, 1, 1, 0, 0, 1, 1, 0]) (by kernel_rfl) [⟨true, .v (.one (.bptr 5 0 1)), [], [], [8], []⟩, ⟨true, .v (.one (.own 4 0 3 l26.length)), [], [], [51], [5]⟩, ⟨true, .v (.one (.val (.int .i64 x25))), [], [], [9], []⟩, ⟨true, .v (.one (.bptr 2 0 1)), [], [], [3], []⟩, ⟨true, .v (.one (tl e_Reading default a2.Read)), [], [], [54], [2]⟩, ⟨true, .v (.one (.val (.int .i64 x25))), [], [], [9], []⟩, ⟨true, .v (.one (.lptr (e_Reading (a2.Read.getD x25.toNat default)))), [], [], [55, 56], []⟩, ⟨true, .v (.agg [.val (.int .i64 (((a2.Read.getD x25.toNat default).P).X)), .val (.int .i64 (((a2.Read.getD x25.toNat default).P).Y)), .val (.bool ((a2.Read.getD x25.toNat default).Ok))]), [], [], [57], []⟩, ⟨true, .v (.one (.rptr 4 0 3 x25.toNat 0)), [], [], [52, 53], []⟩, ⟨true, .undef, [], [(4, (0, .row 44 3 l26.length (rowf e_Reading default (l26.set x25.toNat (a2.Read.getD x25.toNat default)))))], [58, 59], [4]⟩] [0, 1, 0, 0, 8, 0, 56, 120, 255, 511] (by kernel_rfl) (by kernel_rfl) (by kernel_rfl) (by kernel_rfl) (by kernel_rfl) (by kernel_rfl) ?_ ?_
          · refine A_pure (.v (.one (.bptr 5 0 1))) [8] [] (True) (by kernel_rfl) trivial ?_
            refine A_pure (.v (.one (.own 4 0 3 l26.length))) [51] [5] (True) (by kernel_rfl) trivial ?_
            refine A_pure (.v (.one (.val (.int .i64 x25)))) [9] [] (True) (by kernel_rfl) trivial ?_
            refine A_pure (.v (.one (.bptr 2 0 1))) [3] [] (True) (by kernel_rfl) trivial ?_
            refine A_pure (.v (.one (tl e_Reading default a2.Read))) [54] [2] (True) (by kernel_rfl) trivial ?_
            refine A_pure (.v (.one (.val (.int .i64 x25)))) [9] [] (True) (by kernel_rfl) trivial ?_
            refine A_pure (.v (.one (.lptr (e_Reading (a2.Read.getD x25.toNat default))))) [55, 56] [] (0 ≤ x25 ∧ x25 < ((a2.Read.length : Nat) : Int)) (by kernel_rfl) (inb_of g33) ?_
            refine A_pure (.v (.agg [.val (.int .i64 (((a2.Read.getD x25.toNat default).P).X)), .val (.int .i64 (((a2.Read.getD x25.toNat default).P).Y)), .val (.bool ((a2.Read.getD x25.toNat default).Ok))])) [57] [] (True) (by kernel_rfl) trivial ?_
            refine A_pure (.v (.one (.rptr 4 0 3 x25.toNat 0))) [52, 53] [] (0 ≤ x25 ∧ x25 < ((l26.length : Nat) : Int)) (by kernel_rfl) (inb_of g34) ?_
            refine A_run ⟨true, .undef, [], [(4, (0, .row 44 3 l26.length (rowf e_Reading default (l26.set x25.toNat (a2.Read.getD x25.toNat default)))))], [58, 59], [4]⟩ (by kernel_rfl) (Step_store_row 44 (.tmp 59) (.tmp 58) 4 0 3 x25.toNat 0 44 l26.length (rowf e_Reading default l26) (rowf e_Reading default (l26.set x25.toNat (a2.Read.getD x25.toNat default))) (.agg [.val (.int .i64 (((a2.Read.getD x25.toNat default).P).X)), .val (.int .i64 (((a2.Read.getD x25.toNat default).P).Y)), .val (.bool ((a2.Read.getD x25.toNat default).Ok))]) (by kernel_rfl) (by kernel_rfl) (by kernel_rfl) (by kernel_rfl) (by kernel_rfl) (by kernel_rfl) (by kernel_rfl) (by kernel_rfl) (toNat_lt (inb_of g34)) (rowf_set e_Reading default (a2.Read.getD x25.toNat default) l26 l26.length x25.toNat 0 [.val (.int .i64 (((a2.Read.getD x25.toNat default).P).X)), .val (.int .i64 (((a2.Read.getD x25.toNat default).P).Y)), .val (.bool ((a2.Read.getD x25.toNat default).Ok))] rfl (by kernel_rfl))) ?_
            exact A_end
          · exact J_mk ((l26.set x25.toNat (a2.Read.getD x25.toNat default)), l26.length) ⟨(len_set rfl), hm⟩ (by kernel_rfl) (by kernel_rfl)
        · replace hm := bif_f b32 hm
          refine R_skip (by kernel_rfl) ?_
          exact J_mk (l26, l26.length) ⟨rfl, hm⟩ (by kernel_rfl) (by kernel_rfl)
    · replace hm := bif_f b28 hm
      refine R_exit 0 (by kernel_rfl) ?_
      obtain rfl := Option.some.inj hm
      exact L0_mk (by kernel_rfl) (by kernel_rfl)

set_option maxRecDepth 100000 in
theorem ring_Merge_ok (a1 : Ring) (a2 : Ring) (r : Ring × Int) (hm : ring_Merge a1 a2 = some r) : Ct Tryd.prog globs 23 [.agg [.val (.int .i64 a1.Z), tl e_Reading default a1.Read], .agg [.val (.int .i64 a2.Z), tl e_Reading default a2.Read]] (ring_Merge_x r) (ring_Merge_o r) := by
  unfold ring_Merge at hm
  refine Ct_of_H (fn := Tryd.f23) (c := nd Tryd.f23 []) mixed (by kernel_rfl) (by kernel_rfl) (by kernel_rfl) fun w A hg => ?_
  show H ({ P := Tryd.prog, w0 := w, nt := 62, A := A, globs := globs, mixed := mixed, glob := hg } : Ctx) _ _ _
  refine R_seq (nd Tryd.f23 [0]) (nd Tryd.f23 [1]) (by kernel_rfl) ?_
  refine R_region 0 (rg Tryd.f23 [0]) (by kernel_rfl) ?_
  have k3 : opsOk 62 (rg Tryd.f23 [0]) = true := by kernel_rfl
  refine P_step k3 ([(1, 0)]) ([(1, (0, .box 24 [.val (.int .i64 a1.Z), tl e_Reading default a1.Read]))]) (.v (.one (.bptr 1 0 0))) (by kernel_rfl) (Step_box 24 (.tmp 0) 1 0 (.agg [.val (.int .i64 a1.Z), tl e_Reading default a1.Read]) (by kernel_rfl) (by kernel_rfl) (by kernel_rfl)) ?_
  refine P_step k3 ([(2, 0)]) ([(2, (0, .box 24 [.val (.int .i64 a2.Z), tl e_Reading default a2.Read]))]) (.v (.one (.bptr 2 0 0))) (by kernel_rfl) (Step_box 24 (.tmp 1) 2 0 (.agg [.val (.int .i64 a2.Z), tl e_Reading default a2.Read]) (by kernel_rfl) (by kernel_rfl) (by kernel_rfl)) ?_
  refine P_step k3 ([(3, 0)]) ([(3, (0, .box 24 [.val (.int .i64 0), .emp]))]) (.v (.one (.bptr 3 0 0))) (by kernel_rfl) (Step_alloc 24 3 0 [.val (.int .i64 0), .emp] (by kernel_rfl) (by kernel_rfl) (by kernel_rfl)) ?_
  refine P_op k3 (.v (.one (.val (.int .i64 0)))) (by kernel_rfl) ?_
  refine HOps_end (by kernel_rfl) ?_
  refine R_seq (nd Tryd.f23 [1, 0]) (nd Tryd.f23 [1, 1]) (by kernel_rfl) ?_
  refine R_seq (nd Tryd.f23 [1, 0, 0]) (nd Tryd.f23 [1, 0, 1]) (by kernel_rfl) ?_
  refine R_region 1 (rg Tryd.f23 [1, 0, 0]) (by kernel_rfl) ?_
  have k4 : opsOk 62 (rg Tryd.f23 [1, 0, 0]) = true := by kernel_rfl
  refine P_op k4 (.v (.agg [.val (.int .i64 a1.Z), tl e_Reading default a1.Read])) (by kernel_rfl) ?_
  obtain ⟨v5, h6, hm⟩ := bind_s hm
  refine P_step k4 (obNv 4 (ring_Check_o v5)) (obSh 4 (ring_Check_o v5)) ((ring_Check_x v5).sh 4) (by kernel_rfl) (Step_call (x := ring_Check_x v5) (ob := ring_Check_o v5) (f := 14) (args := [(.tmp 11)]) (fn := Tryd.f14) (ys := [.agg [.val (.int .i64 a1.Z), tl e_Reading default a1.Read]]) 4 (by kernel_rfl) (by kernel_rfl) (by kernel_rfl) (by kernel_rfl) (by kernel_rfl) (by kernel_rfl) rfl (ring_Check_ok a1 v5 h6) (by kernel_rfl) (by kernel_rfl)) ?_
  refine P_op k4 (.v (.one (.val (.int .i64 v5)))) (by kernel_rfl) ?_
  refine HOps_end (by kernel_rfl) ?_
  refine R_seq (nd Tryd.f23 [1, 0, 1, 0]) (nd Tryd.f23 [1, 0, 1, 1]) (by kernel_rfl) ?_
  refine R_region 2 (rg Tryd.f23 [1, 0, 1, 0]) (by kernel_rfl) ?_
  have k7 : opsOk 62 (rg Tryd.f23 [1, 0, 1, 0]) = true := by kernel_rfl
  refine P_op k7 (.v (.one (.val (.int .i64 v5)))) (by kernel_rfl) ?_
  refine P_op k7 (.v (.one (.val (.bool (v5 != 0))))) (by kernel_rfl) ?_
  refine HOps_end (by kernel_rfl) ?_
  refine R_cond (.tmp 14) (nd Tryd.f23 [1, 0, 1, 1, 0]) (nd Tryd.f23 [1, 0, 1, 1, 1]) (by kernel_rfl) (v5 != 0) (by kernel_rfl) (fun b8 => ?_) (fun b8 => ?_)
  · replace hm := bif_t b8 hm
    refine R_seq (nd Tryd.f23 [1, 0, 1, 1, 0, 0]) (nd Tryd.f23 [1, 0, 1, 1, 0, 1]) (by kernel_rfl) ?_
    refine R_region 3 (rg Tryd.f23 [1, 0, 1, 1, 0, 0]) (by kernel_rfl) ?_
    have k9 : opsOk 62 (rg Tryd.f23 [1, 0, 1, 1, 0, 0]) = true := by kernel_rfl
    refine P_op k9 (.v (.agg [.val (.int .i64 0), .emp])) (by kernel_rfl) ?_
    refine P_op k9 (.v (.one (.val (.int .i64 v5)))) (by kernel_rfl) ?_
    refine P_write k9 ([(3, (0, .box 24 [.val (.int .i64 0), .emp]))]) (.undef) (by kernel_rfl) (Step_store_box 24 (.tmp 4) (.tmp 15) 3 0 0 24 [.val (.int .i64 0), .emp] (.agg [.val (.int .i64 0), .emp]) [.val (.int .i64 0), .emp] (by kernel_rfl) (by kernel_rfl) (by kernel_rfl) (by kernel_rfl) (by kernel_rfl) (by kernel_rfl) (by kernel_rfl) (by kernel_rfl)) ?_
    refine P_op k9 (.v (.one (.val (.int .i64 v5)))) (by kernel_rfl) ?_
    refine HOps_end (by kernel_rfl) ?_
    refine H_ownB 3 0 24 1 7 44 3 [.val (.int .i64 0), .emp] (rowf e_Reading default ([] : List Reading)) (by kernel_rfl) ?_
    obtain rfl := Option.some.inj hm
    refine H_swap 7 0 ?_
    refine R_ret (by kernel_rfl) ?_
    show RetQ _ _ (ring_Merge_x ((Ring.mk 0 ([] : List Reading)), v5)) (ring_Merge_o ((Ring.mk 0 ([] : List Reading)), v5)) .ret _
    simp only [ring_Merge_x, ring_Merge_o, show ([] : List Reading).length = 0 from rfl]
    exact ret_mk (by kernel_rfl) (by kernel_rfl)
  · replace hm := bif_f b8 hm
    refine R_skip (by kernel_rfl) ?_
    refine R_seq (nd Tryd.f23 [1, 1, 0]) (nd Tryd.f23 [1, 1, 1]) (by kernel_rfl) ?_
    refine R_seq (nd Tryd.f23 [1, 1, 0, 0]) (nd Tryd.f23 [1, 1, 0, 1]) (by kernel_rfl) ?_
    refine R_region 4 (rg Tryd.f23 [1, 1, 0, 0]) (by kernel_rfl) ?_
    have k10 : opsOk 62 (rg Tryd.f23 [1, 1, 0, 0]) = true := by kernel_rfl
    refine P_op k10 (.v (.agg [.val (.int .i64 a2.Z), tl e_Reading default a2.Read])) (by kernel_rfl) ?_
    obtain ⟨v11, h12, hm⟩ := bind_s hm
    refine P_step k10 (obNv 4 (ring_Check_o v11)) (obSh 4 (ring_Check_o v11)) ((ring_Check_x v11).sh 4) (by kernel_rfl) (Step_call (x := ring_Check_x v11) (ob := ring_Check_o v11) (f := 14) (args := [(.tmp 17)]) (fn := Tryd.f14) (ys := [.agg [.val (.int .i64 a2.Z), tl e_Reading default a2.Read]]) 4 (by kernel_rfl) (by kernel_rfl) (by kernel_rfl) (by kernel_rfl) (by kernel_rfl) (by kernel_rfl) rfl (ring_Check_ok a2 v11 h12) (by kernel_rfl) (by kernel_rfl)) ?_
    refine P_op k10 (.v (.one (.val (.int .i64 v11)))) (by kernel_rfl) ?_
    refine HOps_end (by kernel_rfl) ?_
    refine R_seq (nd Tryd.f23 [1, 1, 0, 1, 0]) (nd Tryd.f23 [1, 1, 0, 1, 1]) (by kernel_rfl) ?_
    refine R_region 5 (rg Tryd.f23 [1, 1, 0, 1, 0]) (by kernel_rfl) ?_
    have k13 : opsOk 62 (rg Tryd.f23 [1, 1, 0, 1, 0]) = true := by kernel_rfl
    refine P_op k13 (.v (.one (.val (.int .i64 v11)))) (by kernel_rfl) ?_
    refine P_op k13 (.v (.one (.val (.bool (v11 != 0))))) (by kernel_rfl) ?_
    refine HOps_end (by kernel_rfl) ?_
    refine R_cond (.tmp 20) (nd Tryd.f23 [1, 1, 0, 1, 1, 0]) (nd Tryd.f23 [1, 1, 0, 1, 1, 1]) (by kernel_rfl) (v11 != 0) (by kernel_rfl) (fun b14 => ?_) (fun b14 => ?_)
    · replace hm := bif_t b14 hm
      refine R_seq (nd Tryd.f23 [1, 1, 0, 1, 1, 0, 0]) (nd Tryd.f23 [1, 1, 0, 1, 1, 0, 1]) (by kernel_rfl) ?_
      refine R_region 6 (rg Tryd.f23 [1, 1, 0, 1, 1, 0, 0]) (by kernel_rfl) ?_
      have k15 : opsOk 62 (rg Tryd.f23 [1, 1, 0, 1, 1, 0, 0]) = true := by kernel_rfl
      refine P_op k15 (.v (.agg [.val (.int .i64 0), .emp])) (by kernel_rfl) ?_
      refine P_op k15 (.v (.one (.val (.int .i64 v11)))) (by kernel_rfl) ?_
      refine P_write k15 ([(3, (0, .box 24 [.val (.int .i64 0), .emp]))]) (.undef) (by kernel_rfl) (Step_store_box 24 (.tmp 4) (.tmp 21) 3 0 0 24 [.val (.int .i64 0), .emp] (.agg [.val (.int .i64 0), .emp]) [.val (.int .i64 0), .emp] (by kernel_rfl) (by kernel_rfl) (by kernel_rfl) (by kernel_rfl) (by kernel_rfl) (by kernel_rfl) (by kernel_rfl) (by kernel_rfl)) ?_
      refine P_op k15 (.v (.one (.val (.int .i64 v11)))) (by kernel_rfl) ?_
      refine HOps_end (by kernel_rfl) ?_
      refine H_ownB 3 0 24 1 8 44 3 [.val (.int .i64 0), .emp] (rowf e_Reading default ([] : List Reading)) (by kernel_rfl) ?_
      obtain rfl := Option.some.inj hm
      refine H_swap 8 0 ?_
      refine R_ret (by kernel_rfl) ?_
      show RetQ _ _ (ring_Merge_x ((Ring.mk 0 ([] : List Reading)), v11)) (ring_Merge_o ((Ring.mk 0 ([] : List Reading)), v11)) .ret _
      simp only [ring_Merge_x, ring_Merge_o, show ([] : List Reading).length = 0 from rfl]
      exact ret_mk (by kernel_rfl) (by kernel_rfl)
    · replace hm := bif_f b14 hm
      refine R_skip (by kernel_rfl) ?_
      refine R_seq (nd Tryd.f23 [1, 1, 1, 0]) (nd Tryd.f23 [1, 1, 1, 1]) (by kernel_rfl) ?_
      refine R_join (ι := Bool) (nd Tryd.f23 [1, 1, 1, 0, 0]) (nd Tryd.f23 [1, 1, 1, 0, 1]) (by kernel_rfl) (fun p => ring_Merge_k1_S a1 a2 p) (fun p => ring_Merge_k1 a1 a2 p = some r) ?_ ?_
      · rintro x18 hm
        show H _ (ring_Merge_k1_S a1 a2 x18) (nd Tryd.f23 [1, 1, 1, 0, 1]) _
        refine R_cond (.tmp 36) (nd Tryd.f23 [1, 1, 1, 0, 1, 0]) (nd Tryd.f23 [1, 1, 1, 0, 1, 1]) (by kernel_rfl) x18 (by kernel_rfl) (fun b19 => ?_) (fun b19 => ?_)
        · replace hm := bif_t b19 hm
          refine R_seq (nd Tryd.f23 [1, 1, 1, 0, 1, 0, 0]) (nd Tryd.f23 [1, 1, 1, 0, 1, 0, 1]) (by kernel_rfl) ?_
          refine R_region 8 (rg Tryd.f23 [1, 1, 1, 0, 1, 0, 0]) (by kernel_rfl) ?_
          have k20 : opsOk 62 (rg Tryd.f23 [1, 1, 1, 0, 1, 0, 0]) = true := by kernel_rfl
          refine P_op k20 (.v (.agg [.val (.int .i64 0), .emp])) (by kernel_rfl) ?_
          refine P_write k20 ([(3, (0, .box 24 [.val (.int .i64 0), .emp]))]) (.undef) (by kernel_rfl) (Step_store_box 24 (.tmp 4) (.tmp 37) 3 0 0 24 [.val (.int .i64 0), .emp] (.agg [.val (.int .i64 0), .emp]) [.val (.int .i64 0), .emp] (by kernel_rfl) (by kernel_rfl) (by kernel_rfl) (by kernel_rfl) (by kernel_rfl) (by kernel_rfl) (by kernel_rfl) (by kernel_rfl)) ?_
          refine P_op k20 (.v (.one (.val (.int .i64 19)))) (by kernel_rfl) ?_
          refine HOps_end (by kernel_rfl) ?_
          refine H_ownB 3 0 24 1 9 44 3 [.val (.int .i64 0), .emp] (rowf e_Reading default ([] : List Reading)) (by kernel_rfl) ?_
          obtain rfl := Option.some.inj hm
          refine H_swap 9 0 ?_
          refine R_ret (by kernel_rfl) ?_
          show RetQ _ _ (ring_Merge_x ((Ring.mk 0 ([] : List Reading)), 19)) (ring_Merge_o ((Ring.mk 0 ([] : List Reading)), 19)) .ret _
          simp only [ring_Merge_x, ring_Merge_o, show ([] : List Reading).length = 0 from rfl]
          exact ret_mk (by kernel_rfl) (by kernel_rfl)
        · replace hm := bif_f b19 hm
          refine R_skip (by kernel_rfl) ?_
          refine R_seq (nd Tryd.f23 [1, 1, 1, 1, 0]) (nd Tryd.f23 [1, 1, 1, 1, 1]) (by kernel_rfl) ?_
          refine R_region 9 (rg Tryd.f23 [1, 1, 1, 1, 0]) (by kernel_rfl) ?_
          have k21 : opsOk 62 (rg Tryd.f23 [1, 1, 1, 1, 0]) = true := by kernel_rfl
          refine P_op k21 (.v (.agg [.val (.int .i64 a1.Z), tl e_Reading default a1.Read])) (by kernel_rfl) ?_
          obtain ⟨v22, h23, hm⟩ := bind_s hm
          refine P_step k21 (obNv 4 (ring_clone_o v22)) (obSh 4 (ring_clone_o v22)) ((ring_clone_x v22).sh 4) (by kernel_rfl) (Step_call (x := ring_clone_x v22) (ob := ring_clone_o v22) (f := 30) (args := [(.tmp 38)]) (fn := Tryd.f30) (ys := [.agg [.val (.int .i64 a1.Z), tl e_Reading default a1.Read]]) 4 (by kernel_rfl) (by kernel_rfl) (by kernel_rfl) (by kernel_rfl) (by kernel_rfl) (by kernel_rfl) rfl (ring_clone_ok a1 v22 h23) (by kernel_rfl) (by kernel_rfl)) ?_
          refine P_step k21 ([(5, 0)]) ([(5, (0, .box 24 [.val (.int .i64 0), .emp]))]) (.v (.one (.bptr 5 0 0))) (by kernel_rfl) (Step_alloc 24 5 0 [.val (.int .i64 0), .emp] (by kernel_rfl) (by kernel_rfl) (by kernel_rfl)) ?_
          refine P_write k21 ([(5, (0, .box 24 [.val (.int .i64 v22.Z), .own 4 0 3 v22.Read.length]))]) (.undef) (by kernel_rfl) (Step_store_box 24 (.tmp 8) (.tmp 39) 5 0 0 24 [.val (.int .i64 0), .emp] (.agg [.val (.int .i64 v22.Z), .own 4 0 3 v22.Read.length]) [.val (.int .i64 v22.Z), .own 4 0 3 v22.Read.length] (by kernel_rfl) (by kernel_rfl) (by kernel_rfl) (by kernel_rfl) (by kernel_rfl) (by kernel_rfl) (by kernel_rfl) (by kernel_rfl)) ?_
          refine HOps_end (by kernel_rfl) ?_
          refine R_seq (nd Tryd.f23 [1, 1, 1, 1, 1, 0]) (nd Tryd.f23 [1, 1, 1, 1, 1, 1]) (by kernel_rfl) ?_
          refine R_seq (nd Tryd.f23 [1, 1, 1, 1, 1, 0, 0]) (nd Tryd.f23 [1, 1, 1, 1, 1, 0, 1]) (by kernel_rfl) ?_
          refine R_region 10 (rg Tryd.f23 [1, 1, 1, 1, 1, 0, 0]) (by kernel_rfl) ?_
          have k24 : opsOk 62 (rg Tryd.f23 [1, 1, 1, 1, 1, 0, 0]) = true := by kernel_rfl
          refine P_op k24 (.v (.one (.bptr 1 0 1))) (by kernel_rfl) ?_
          refine P_op k24 (.v (.one (tl e_Reading default a1.Read))) (by kernel_rfl) ?_
          refine P_op k24 (.v (.one (.val (.int .i64 ((a1.Read.length : Nat) : Int))))) (by kernel_rfl) ?_
          refine P_op k24 (.v (.one (.val (.int .i64 0)))) (by kernel_rfl) ?_
          refine HOps_end (by kernel_rfl) ?_
          obtain ⟨o38, h39, hm⟩ := bind_s hm
          refine R_loop0 (nd Tryd.f23 [1, 1, 1, 1, 1, 0, 1, 0, 0]) 0 (by kernel_rfl) FUEL (fun o => ring_Merge_L2_T v22 o) o38 (HL_enter (ring_Merge_L2_S a1 a2 v22 0 v22.Read v22.Read.length) (by kernel_rfl) (by kernel_rfl) (ring_Merge_L2_ok w A hg a1 a2 v22 FUEL 0 v22.Read v22.Read.length o38 rfl h39)) ?_
          refine R_seq (nd Tryd.f23 [1, 1, 1, 1, 1, 1, 0]) (nd Tryd.f23 [1, 1, 1, 1, 1, 1, 1]) (by kernel_rfl) ?_
          refine R_region 16 (rg Tryd.f23 [1, 1, 1, 1, 1, 1, 0]) (by kernel_rfl) ?_
          have k40 : opsOk 62 (rg Tryd.f23 [1, 1, 1, 1, 1, 1, 0]) = true := by kernel_rfl
          refine P_op k40 (.v (.agg [.val (.int .i64 v22.Z), .own 4 0 3 o38.length])) (by kernel_rfl) ?_
          refine P_write k40 ([(3, (0, .box 24 [.val (.int .i64 v22.Z), .own 4 0 3 o38.length]))]) (.undef) (by kernel_rfl) (Step_store_box 24 (.tmp 4) (.tmp 61) 3 0 0 24 [.val (.int .i64 0), .emp] (.agg [.val (.int .i64 v22.Z), .own 4 0 3 o38.length]) [.val (.int .i64 v22.Z), .own 4 0 3 o38.length] (by kernel_rfl) (by kernel_rfl) (by kernel_rfl) (by kernel_rfl) (by kernel_rfl) (by kernel_rfl) (by kernel_rfl) (by kernel_rfl)) ?_
          refine P_op k40 (.v (.one (.val (.int .i64 0)))) (by kernel_rfl) ?_
          refine HOps_end (by kernel_rfl) ?_
          obtain rfl := Option.some.inj hm
          refine H_swap 4 0 ?_
          refine R_ret (by kernel_rfl) ?_
          exact ret_mk (by kernel_rfl) (by kernel_rfl)
      · refine R_region 7 (rg Tryd.f23 [1, 1, 1, 0, 0]) (by kernel_rfl) ?_
        have k16 : opsOk 62 (rg Tryd.f23 [1, 1, 1, 0, 0]) = true := by kernel_rfl
        refine P_op k16 (.v (.one (.bptr 1 0 0))) (by kernel_rfl) ?_
        refine P_op k16 (.v (.one (.val (.int .i64 a1.Z)))) (by kernel_rfl) ?_
        refine P_op k16 (.v (.one (.bptr 2 0 0))) (by kernel_rfl) ?_
        refine P_op k16 (.v (.one (.val (.int .i64 a2.Z)))) (by kernel_rfl) ?_
        refine P_op k16 (.v (.one (.val (.bool (a1.Z != a2.Z))))) (by kernel_rfl) ?_
        refine P_op k16 (.v (.one (.val (.bool (a1.Z != a2.Z))))) (by kernel_rfl) ?_
        refine HOps_bool 28 (a1.Z != a2.Z) (by kernel_rfl) (fun b17 => ?_) (fun b17 => ?_)
        · replace hm := bif_t b17 hm
          refine P_skip k16 (by kernel_rfl) ?_
          refine P_skip k16 (by kernel_rfl) ?_
          refine P_skip k16 (by kernel_rfl) ?_
          refine P_skip k16 (by kernel_rfl) ?_
          refine P_skip k16 (by kernel_rfl) ?_
          refine P_skip k16 (by kernel_rfl) ?_
          refine P_skip k16 (by kernel_rfl) ?_
          refine P_op k16 (.v (.one (.val (.bool true)))) (by kernel_rfl) ?_
          refine HOps_end (by kernel_rfl) ?_
          exact J_mk (true) hm (by kernel_rfl) (by kernel_rfl)
        · replace hm := bif_f b17 hm
          refine P_op k16 (.v (.one (.bptr 1 0 1))) (by kernel_rfl) ?_
          refine P_op k16 (.v (.one (tl e_Reading default a1.Read))) (by kernel_rfl) ?_
          refine P_op k16 (.v (.one (.val (.int .i64 ((a1.Read.length : Nat) : Int))))) (by kernel_rfl) ?_
          refine P_op k16 (.v (.one (.bptr 2 0 1))) (by kernel_rfl) ?_
          refine P_op k16 (.v (.one (tl e_Reading default a2.Read))) (by kernel_rfl) ?_
          refine P_op k16 (.v (.one (.val (.int .i64 ((a2.Read.length : Nat) : Int))))) (by kernel_rfl) ?_
          refine P_op k16 (.v (.one (.val (.bool (((a1.Read.length : Nat) : Int) != ((a2.Read.length : Nat) : Int)))))) (by kernel_rfl) ?_
          refine P_op k16 (.v (.one (.val (.bool (((a1.Read.length : Nat) : Int) != ((a2.Read.length : Nat) : Int)))))) (by kernel_rfl) ?_
          refine HOps_end (by kernel_rfl) ?_
          exact J_mk (((a1.Read.length : Nat) : Int) != ((a2.Read.length : Nat) : Int)) hm (by kernel_rfl) (by kernel_rfl)

end Saw
end Go.SL
