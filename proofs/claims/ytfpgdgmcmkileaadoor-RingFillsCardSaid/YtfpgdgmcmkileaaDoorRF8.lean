import Derived.Test.YtfpgdgmcmkileaaDoorRBase
import Derived.Test.YtfpgdgmcmkileaaDoorRA5
import Derived.Test.YtfpgdgmcmkileaaDoorRA1
import Derived.Test.YtfpgdgmcmkileaaDoorRA2
set_option linter.unusedVariables false
set_option linter.unusedSimpArgs false
namespace Go.SL
namespace Saw
open Go.Proofs
set_option maxHeartbeats 4000000

def law12_RingFills_x (r : Bool) : V := .v (.one (.val (.bool r)))

def law12_RingFills_o (r : Bool) : List (Nat × (Nat × O)) := []

theorem law12_RingFills_f (r : Bool) : Frozen (law12_RingFills_o r) := by
  intro i k o h
  unfold law12_RingFills_o at h
  cases h

def law12_RingFills_k2_S (x20 : Bool) : St :=
  { slots := [(4, .v (.one (.val (.bool x20))))], objs := [] }

def law12_RingFills_k4_S (x40 : Bool) : St :=
  { slots := [(4, .v (.one (.val (.bool x40))))], objs := [] }

def law12_RingFills_k7_S (a1 : Ring) (v22 : (List Point) × Int) (x49 : Int) (l50 : List Reading) (x70 : Bool) (x71 : Point) (x72 : Point) : St :=
  { slots := [(2, .v (.one (.bptr 1 0 0))), (7, .v (.one (.own 3 0 2 v22.1.length))), (11, .v (.one (.bptr 4 0 0))), (12, .v (.one (.bptr 5 0 0))), (13, .v (.one (.val (.bool x70)))), (14, .v (.one (.bptr 6 0 0))), (15, .v (.one (.val (.int .i64 x49))))], objs := [(1, (0, .box 24 [.val (.int .i64 a1.Z), tl e_Reading default a1.Read])), (3, (0, .row 38 2 v22.1.length (rowf e_Point default v22.1))), (4, (0, .box 38 [.val (.int .i64 x72.X), .val (.int .i64 x72.Y)])), (5, (0, .box 38 [.val (.int .i64 x71.X), .val (.int .i64 x71.Y)])), (6, (0, .box 24 [.val (.int .i64 a1.Z), .own 1001 0 3 (l50.length + 1)])), (1001, (0, .row 44 3 (l50.length + 1) (rowf e_Reading default (l50 ++ ([(Reading.mk (v22.1.getD x49.toNat default) true)] : List Reading)))))] }

def law12_RingFills_k6_S (a1 : Ring) (v22 : (List Point) × Int) (x49 : Int) (l50 : List Reading) (x65 : Bool) (x66 : Point) (x67 : Point) : St :=
  { slots := [(2, .v (.one (.bptr 1 0 0))), (7, .v (.one (.own 3 0 2 v22.1.length))), (11, .v (.one (.bptr 4 0 0))), (12, .v (.one (.bptr 5 0 0))), (13, .v (.one (.val (.bool x65)))), (14, .v (.one (.bptr 6 0 0))), (15, .v (.one (.val (.int .i64 x49)))), (16, .v (.one (.bptr 8 0 0)))], objs := [(1, (0, .box 24 [.val (.int .i64 a1.Z), tl e_Reading default a1.Read])), (3, (0, .row 38 2 v22.1.length (rowf e_Point default v22.1))), (4, (0, .box 38 [.val (.int .i64 x67.X), .val (.int .i64 x67.Y)])), (5, (0, .box 38 [.val (.int .i64 x66.X), .val (.int .i64 x66.Y)])), (6, (0, .box 24 [.val (.int .i64 a1.Z), .own 1001 0 3 (l50.length + 1)])), (8, (0, .box 38 [.val (.int .i64 (((a1.Read.getD x49.toNat default).P).X)), .val (.int .i64 (((a1.Read.getD x49.toNat default).P).Y))])), (1001, (0, .row 44 3 (l50.length + 1) (rowf e_Reading default (l50 ++ ([(Reading.mk (v22.1.getD x49.toNat default) true)] : List Reading)))))] }

def law12_RingFills_L5_S (a1 : Ring) (v22 : (List Point) × Int) (x48 : Bool) (x49 : Int) (l50 : List Reading) (l50n : Nat) (x51 : Point) (x52 : Point) : St :=
  { slots := [(2, .v (.one (.bptr 1 0 0))), (7, .v (.one (.own 3 0 2 v22.1.length))), (11, .v (.one (.bptr 4 0 0))), (12, .v (.one (.bptr 5 0 0))), (13, .v (.one (.val (.bool x48)))), (14, .v (.one (.bptr 6 0 0))), (15, .v (.one (.val (.int .i64 x49))))], objs := [(1, (0, .box 24 [.val (.int .i64 a1.Z), tl e_Reading default a1.Read])), (3, (0, .row 38 2 v22.1.length (rowf e_Point default v22.1))), (4, (0, .box 38 [.val (.int .i64 x52.X), .val (.int .i64 x52.Y)])), (5, (0, .box 38 [.val (.int .i64 x51.X), .val (.int .i64 x51.Y)])), (6, (0, .box 24 [.val (.int .i64 a1.Z), .own 1001 0 3 l50n])), (1001, (0, .row 44 3 l50n (rowf e_Reading default l50)))] }

def law12_RingFills_L5_T (a1 : Ring) (v22 : (List Point) × Int) (l74 : List Reading) (x75 : Point) (x76 : Point) : St :=
  { slots := [(2, .v (.one (.bptr 1 0 0))), (7, .v (.one (.own 3 0 2 v22.1.length))), (11, .v (.one (.bptr 4 0 0))), (12, .v (.one (.bptr 5 0 0))), (14, .v (.one (.bptr 6 0 0)))], objs := [(1, (0, .box 24 [.val (.int .i64 a1.Z), tl e_Reading default a1.Read])), (3, (0, .row 38 2 v22.1.length (rowf e_Point default v22.1))), (4, (0, .box 38 [.val (.int .i64 x76.X), .val (.int .i64 x76.Y)])), (5, (0, .box 38 [.val (.int .i64 x75.X), .val (.int .i64 x75.Y)])), (6, (0, .box 24 [.val (.int .i64 a1.Z), .own 1001 0 3 l74.length])), (1001, (0, .row 44 3 l74.length (rowf e_Reading default l74)))] }

def law12_RingFills_k9_S (a1 : Ring) (v22 : (List Point) × Int) (o77 : (List Reading) × Point × Point) (x82 : Int) (x89 : Bool) : St :=
  { slots := [(2, .v (.one (.bptr 1 0 0))), (7, .v (.one (.own 3 0 2 v22.1.length))), (11, .v (.one (.bptr 4 0 0))), (12, .v (.one (.bptr 5 0 0))), (14, .v (.one (.bptr 6 0 0))), (17, .v (.one (.val (.int .i64 x82)))), (203, .v (.one (.val (.bool x89))))], objs := [(1, (0, .box 24 [.val (.int .i64 a1.Z), tl e_Reading default a1.Read])), (3, (0, .row 38 2 v22.1.length (rowf e_Point default v22.1))), (4, (0, .box 38 [.val (.int .i64 o77.2.2.X), .val (.int .i64 o77.2.2.Y)])), (5, (0, .box 38 [.val (.int .i64 o77.2.1.X), .val (.int .i64 o77.2.1.Y)])), (6, (0, .box 24 [.val (.int .i64 a1.Z), .own 1001 0 3 o77.1.length])), (1001, (0, .row 44 3 o77.1.length (rowf e_Reading default o77.1)))] }

def law12_RingFills_L8_S (a1 : Ring) (v22 : (List Point) × Int) (o77 : (List Reading) × Point × Point) (x82 : Int) : St :=
  { slots := [(2, .v (.one (.bptr 1 0 0))), (7, .v (.one (.own 3 0 2 v22.1.length))), (11, .v (.one (.bptr 4 0 0))), (12, .v (.one (.bptr 5 0 0))), (14, .v (.one (.bptr 6 0 0))), (17, .v (.one (.val (.int .i64 x82))))], objs := [(1, (0, .box 24 [.val (.int .i64 a1.Z), tl e_Reading default a1.Read])), (3, (0, .row 38 2 v22.1.length (rowf e_Point default v22.1))), (4, (0, .box 38 [.val (.int .i64 o77.2.2.X), .val (.int .i64 o77.2.2.Y)])), (5, (0, .box 38 [.val (.int .i64 o77.2.1.X), .val (.int .i64 o77.2.1.Y)])), (6, (0, .box 24 [.val (.int .i64 a1.Z), .own 1001 0 3 o77.1.length])), (1001, (0, .row 44 3 o77.1.length (rowf e_Reading default o77.1)))] }

def law12_RingFills_L8_T (a1 : Ring) (v22 : (List Point) × Int) (o77 : (List Reading) × Point × Point) : St :=
  { slots := [(2, .v (.one (.bptr 1 0 0))), (7, .v (.one (.own 3 0 2 v22.1.length))), (14, .v (.one (.bptr 6 0 0)))], objs := [(1, (0, .box 24 [.val (.int .i64 a1.Z), tl e_Reading default a1.Read])), (3, (0, .row 38 2 v22.1.length (rowf e_Point default v22.1))), (6, (0, .box 24 [.val (.int .i64 a1.Z), .own 1001 0 3 o77.1.length])), (1001, (0, .row 44 3 o77.1.length (rowf e_Reading default o77.1)))] }

def law12_RingFills_k12_S (v22 : (List Point) × Int) (v98 : (List Point) × Int) (v101 : (List Point) × Int) (x111 : Int) (x118 : Bool) : St :=
  { slots := [(7, .v (.one (.own 3 0 2 v22.1.length))), (18, .v (.one (.own 9 0 2 v98.1.length))), (20, .v (.one (.own 10 0 2 v101.1.length))), (22, .v (.one (.val (.int .i64 x111)))), (259, .v (.one (.val (.bool x118))))], objs := [(3, (0, .row 38 2 v22.1.length (rowf e_Point default v22.1))), (9, (0, .row 38 2 v98.1.length (rowf e_Point default v98.1))), (10, (0, .row 38 2 v101.1.length (rowf e_Point default v101.1)))] }

def law12_RingFills_L11_S (v22 : (List Point) × Int) (v98 : (List Point) × Int) (v101 : (List Point) × Int) (x111 : Int) : St :=
  { slots := [(7, .v (.one (.own 3 0 2 v22.1.length))), (18, .v (.one (.own 9 0 2 v98.1.length))), (20, .v (.one (.own 10 0 2 v101.1.length))), (22, .v (.one (.val (.int .i64 x111))))], objs := [(3, (0, .row 38 2 v22.1.length (rowf e_Point default v22.1))), (9, (0, .row 38 2 v98.1.length (rowf e_Point default v98.1))), (10, (0, .row 38 2 v101.1.length (rowf e_Point default v101.1)))] }

def law12_RingFills_L11_T : St :=
  { slots := [], objs := [] }

def law12_RingFills_k10_S (v22 : (List Point) × Int) (v98 : (List Point) × Int) (v101 : (List Point) × Int) (x107 : Bool) : St :=
  { slots := [(7, .v (.one (.own 3 0 2 v22.1.length))), (18, .v (.one (.own 9 0 2 v98.1.length))), (20, .v (.one (.own 10 0 2 v101.1.length))), (233, .v (.one (.val (.bool x107))))], objs := [(3, (0, .row 38 2 v22.1.length (rowf e_Point default v22.1))), (9, (0, .row 38 2 v98.1.length (rowf e_Point default v98.1))), (10, (0, .row 38 2 v101.1.length (rowf e_Point default v101.1)))] }

def law12_RingFills_k3_S (a1 : Ring) (v22 : (List Point) × Int) (x30 : Bool) : St :=
  { slots := [(2, .v (.one (.bptr 1 0 0))), (7, .v (.one (.own 3 0 2 v22.1.length))), (8, .v (.one (.val (.int .i64 v22.2)))), (77, .v (.one (.val (.bool x30))))], objs := [(1, (0, .box 24 [.val (.int .i64 a1.Z), tl e_Reading default a1.Read])), (3, (0, .row 38 2 v22.1.length (rowf e_Point default v22.1)))] }

def law12_RingFills_k1_S (a1 : Ring) (a2 : Int) (x8 : Bool) : St :=
  { slots := [(1, .v (.one (.val (.int .i64 a2)))), (2, .v (.one (.bptr 1 0 0))), (31, .v (.one (.val (.bool x8))))], objs := [(1, (0, .box 24 [.val (.int .i64 a1.Z), tl e_Reading default a1.Read]))] }

set_option maxRecDepth 100000 in
theorem law12_RingFills_L5_ok (w : World) (A : Nat → Prop) (hg : Globs globs w A) (a1 : Ring) (v22 : (List Point) × Int) : ∀ (n : Nat) (x48 : Bool) (x49 : Int) (l50 : List Reading) (l50n : Nat) (x51 : Point) (x52 : Point) (res : Bool ⊕ ((List Reading) × Point × Point)), l50.length = l50n → law12_RingFills_L5 a1 v22 n x48 x49 l50 x51 x52 = some res → HL ({ P := Tryd.prog, w0 := w, nt := 261, A := A, globs := globs, mixed := mixed, glob := hg } : Ctx) (nd Tryd.f8 [1, 1, 1, 1, 1, 1, 1, 1, 1, 1, 0, 1, 0, 0]) (loopQ 0 (fun o => law12_RingFills_L5_T a1 v22 o.1 o.2.1 o.2.2) (fun v st => RetQ Tryd.prog Tryd.f8 (law12_RingFills_x v) (law12_RingFills_o v) .ret st) res) n (law12_RingFills_L5_S a1 v22 x48 x49 l50 l50n x51 x52) := by
  intro n
  induction n with
  | zero =>
    intro x48 x49 l50 l50n x51 x52 res hl0 hm
    cases hm
  | succ n ih =>
    intro x48 x49 l50 l50n x51 x52 res hl0 hm
    subst hl0
    refine HL_succ ?_
    refine R_seq (nd Tryd.f8 [1, 1, 1, 1, 1, 1, 1, 1, 1, 1, 0, 1, 0, 0, 0]) (nd Tryd.f8 [1, 1, 1, 1, 1, 1, 1, 1, 1, 1, 0, 1, 0, 0, 1]) (by kernel_rfl) ?_
    refine R_seq (nd Tryd.f8 [1, 1, 1, 1, 1, 1, 1, 1, 1, 1, 0, 1, 0, 0, 0, 0]) (nd Tryd.f8 [1, 1, 1, 1, 1, 1, 1, 1, 1, 1, 0, 1, 0, 0, 0, 1]) (by kernel_rfl) ?_
    refine R_region 16 (rg Tryd.f8 [1, 1, 1, 1, 1, 1, 1, 1, 1, 1, 0, 1, 0, 0, 0, 0]) (by kernel_rfl) ?_
    have k53 : opsOk 261 (rg Tryd.f8 [1, 1, 1, 1, 1, 1, 1, 1, 1, 1, 0, 1, 0, 0, 0, 0]) = true := by kernel_rfl
    refine P_op k53 (.v (.one (.val (.int .i64 x49)))) (by kernel_rfl) ?_
    refine P_op k53 (.v (.one (.own 3 0 2 v22.1.length))) (by kernel_rfl) ?_
    refine P_op k53 (.v (.one (.val (.int .i64 ((v22.1.length : Nat) : Int))))) (by kernel_rfl) ?_
    refine P_op k53 (.v (.one (.val (.bool (decide (x49 < ((v22.1.length : Nat) : Int))))))) (by kernel_rfl) ?_
    refine HOps_end (by kernel_rfl) ?_
    refine R_cond (.tmp 102) (nd Tryd.f8 [1, 1, 1, 1, 1, 1, 1, 1, 1, 1, 0, 1, 0, 0, 0, 1, 0]) (nd Tryd.f8 [1, 1, 1, 1, 1, 1, 1, 1, 1, 1, 0, 1, 0, 0, 0, 1, 1]) (by kernel_rfl) (decide (x49 < ((v22.1.length : Nat) : Int))) (by kernel_rfl) (fun b54 => ?_) (fun b54 => ?_)
    · replace hm := bif_t b54 hm
      refine R_skip (by kernel_rfl) ?_
      refine R_join (ι := Bool × Point × Point) (nd Tryd.f8 [1, 1, 1, 1, 1, 1, 1, 1, 1, 1, 0, 1, 0, 0, 1, 0]) (nd Tryd.f8 [1, 1, 1, 1, 1, 1, 1, 1, 1, 1, 0, 1, 0, 0, 1, 1]) (by kernel_rfl) (fun p => law12_RingFills_k7_S a1 v22 x49 l50 p.1 p.2.1 p.2.2) (fun p => law12_RingFills_k7 v22 x49 l50 (law12_RingFills_L5 a1 v22 n) p.1 p.2.1 p.2.2 = some res) ?_ ?_
      · rintro ⟨x70, x71, x72⟩ hm
        show H _ (law12_RingFills_k7_S a1 v22 x49 l50 x70 x71 x72) (nd Tryd.f8 [1, 1, 1, 1, 1, 1, 1, 1, 1, 1, 0, 1, 0, 0, 1, 1]) _
        refine R_region 17 (rg Tryd.f8 [1, 1, 1, 1, 1, 1, 1, 1, 1, 1, 0, 1, 0, 0, 1, 1]) (by kernel_rfl) ?_
        have k73 : opsOk 261 (rg Tryd.f8 [1, 1, 1, 1, 1, 1, 1, 1, 1, 1, 0, 1, 0, 0, 1, 1]) = true := by kernel_rfl
        refine P_op k73 (.v (.one (.val (.int .i64 x49)))) (by kernel_rfl) ?_
        refine P_op k73 (.v (.one (.val (.int .i64 (w64 (x49 + 1)))))) (by kernel_rfl) ?_
        refine P_op k73 (.v (.one (.val (.int .i64 (w64 (x49 + 1)))))) (by kernel_rfl) ?_
        refine HOps_end (by kernel_rfl) ?_
        exact HL_enter (law12_RingFills_L5_S a1 v22 x70 (w64 (x49 + 1)) (l50 ++ ([(Reading.mk (v22.1.getD x49.toNat default) true)] : List Reading)) (l50.length + 1) x71 x72) (by kernel_rfl) (by kernel_rfl) (ih x70 (w64 (x49 + 1)) (l50 ++ ([(Reading.mk (v22.1.getD x49.toNat default) true)] : List Reading)) (l50.length + 1) x71 x72 _ (len_app rfl rfl) hm)
      · refine R_block 1 (nd Tryd.f8 [1, 1, 1, 1, 1, 1, 1, 1, 1, 1, 0, 1, 0, 0, 1, 0, 0]) (by kernel_rfl) ?_
        refine R_seq (nd Tryd.f8 [1, 1, 1, 1, 1, 1, 1, 1, 1, 1, 0, 1, 0, 0, 1, 0, 0, 0]) (nd Tryd.f8 [1, 1, 1, 1, 1, 1, 1, 1, 1, 1, 0, 1, 0, 0, 1, 0, 0, 1]) (by kernel_rfl) ?_
        obtain ⟨g55, hm⟩ := bif_n hm
        obtain ⟨g56, hm⟩ := bif_n hm
        refine R_draw 18 (rg Tryd.f8 [1, 1, 1, 1, 1, 1, 1, 1, 1, 1, 0, 1, 0, 0, 1, 0, 0, 0]) (by kernel_rfl) [⟨true, .v (.one (.bptr 6 0 1)), [], [], [14], []⟩, ⟨true, .v (.one (.own 1001 0 3 l50.length)), [], [], [105], [6]⟩, ⟨true, .v (.one (.own 3 0 2 v22.1.length)), [], [], [7], []⟩, ⟨true, .v (.one (.val (.int .i64 x49))), [], [], [15], []⟩, ⟨true, .v (.one (.rptr 3 0 2 x49.toNat 0)), [], [], [107, 108], []⟩, ⟨true, .v (.agg [.val (.int .i64 ((v22.1.getD x49.toNat default).X)), .val (.int .i64 ((v22.1.getD x49.toNat default).Y))]), [], [], [109], [3]⟩, ⟨true, .v (.agg [.val (.int .i64 ((v22.1.getD x49.toNat default).X)), .val (.int .i64 ((v22.1.getD x49.toNat default).Y)), .val (.bool true)]), [], [], [110], []⟩, ⟨true, .v (.one (.own 7 0 3 1)), [(7, 0)], [(7, (0, .row 44 3 1 (rowf e_Reading default ([(Reading.mk (v22.1.getD x49.toNat default) true)] : List Reading))))], [111], []⟩, ⟨true, .v (.one (.own 1001 1 3 (l50.length + 1))), [(1001, 1)], [(1001, (1, .row 44 3 (l50.length + 1) (rowf e_Reading default (l50 ++ ([(Reading.mk (v22.1.getD x49.toNat default) true)] : List Reading)))))], [106, 112], [7, 1001]⟩, ⟨true, .v (.one (.bptr 6 0 1)), [], [], [14], []⟩, ⟨true, .undef, [], [(6, (0, .box 24 [.val (.int .i64 a1.Z), .own 1001 1 3 (l50.length + 1)]))], [113, 114], [6]⟩] [0, 1, 0, 0, 12, 28, 60, 124, 255, 511, 1023] (by kernel_rfl) (by kernel_rfl) (by kernel_rfl) (by kernel_rfl) (by kernel_rfl) (by kernel_rfl) ?_ ?_
        · refine A_pure (.v (.one (.bptr 6 0 1))) [14] [] (True) (by kernel_rfl) trivial ?_
          refine A_pure (.v (.one (.own 1001 0 3 l50.length))) [105] [6] (True) (by kernel_rfl) trivial ?_
          refine A_pure (.v (.one (.own 3 0 2 v22.1.length))) [7] [] (True) (by kernel_rfl) trivial ?_
          refine A_pure (.v (.one (.val (.int .i64 x49)))) [15] [] (True) (by kernel_rfl) trivial ?_
          refine A_pure (.v (.one (.rptr 3 0 2 x49.toNat 0))) [107, 108] [] (0 ≤ x49 ∧ x49 < ((v22.1.length : Nat) : Int)) (by kernel_rfl) (inb_of g55) ?_
          refine A_pure (.v (.agg [.val (.int .i64 ((v22.1.getD x49.toNat default).X)), .val (.int .i64 ((v22.1.getD x49.toNat default).Y))])) [109] [3] (x49.toNat < v22.1.length) (by kernel_rfl) (toNat_lt (inb_of g55)) ?_
          refine A_pure (.v (.agg [.val (.int .i64 ((v22.1.getD x49.toNat default).X)), .val (.int .i64 ((v22.1.getD x49.toNat default).Y)), .val (.bool true)])) [110] [] (True) (by kernel_rfl) trivial ?_
          refine A_run ⟨true, .v (.one (.own 7 0 3 1)), [(7, 0)], [(7, (0, .row 44 3 1 (rowf e_Reading default ([(Reading.mk (v22.1.getD x49.toNat default) true)] : List Reading))))], [111], []⟩ (by kernel_rfl) (Step_lit 22 44 1 #[(0, (.tmp 111))] 7 0 Tryd.t44 [.val (.int .i64 0), .val (.int .i64 0), .val (.bool false)] [(0, .agg [.val (.int .i64 ((v22.1.getD x49.toNat default).X)), .val (.int .i64 ((v22.1.getD x49.toNat default).Y)), .val (.bool true)])] [.val (.int .i64 ((v22.1.getD x49.toNat default).X)), .val (.int .i64 ((v22.1.getD x49.toNat default).Y)), .val (.bool true)] (by kernel_rfl) (by kernel_rfl) (by kernel_rfl) (by kernel_rfl) (by kernel_rfl) (by kernel_rfl) (by kernel_rfl) (by kernel_rfl) (by kernel_rfl) (by kernel_rfl) (by kernel_rfl) (rowf e_Reading default ([(Reading.mk (v22.1.getD x49.toNat default) true)] : List Reading)) (lit_succ (n := 0) lit_zero (by kernel_rfl))) ?_
          refine A_run ⟨true, .v (.one (.own 1001 1 3 (l50.length + 1))), [(1001, 1)], [(1001, (1, .row 44 3 (l50.length + 1) (rowf e_Reading default (l50 ++ ([(Reading.mk (v22.1.getD x49.toNat default) true)] : List Reading)))))], [106, 112], [7, 1001]⟩ (by kernel_rfl) (Step_append (.tmp 106) (.tmp 112) 22 44 1001 0 1 l50.length l50.length 1 Tryd.t44 (.agg #[.int .i64 0, .int .i64 0, .bool false]) (rowf e_Reading default l50) (rowf e_Reading default ([(Reading.mk (v22.1.getD x49.toNat default) true)] : List Reading)) (rowf e_Reading default (l50 ++ ([(Reading.mk (v22.1.getD x49.toNat default) true)] : List Reading))) (.one (.own 7 0 3 1)) (1 ≤ 1) (by kernel_rfl) (by kernel_rfl) (by kernel_rfl) (by kernel_rfl) (by kernel_rfl) (by kernel_rfl) (by kernel_rfl) (by kernel_rfl) (by kernel_rfl) (by kernel_rfl) (by kernel_rfl) (Nat.le_refl _) (fun _ _ => by kernel_rfl) (Nat.le_refl _) (room_of g56) (rowf_app e_Reading default l50 ([(Reading.mk (v22.1.getD x49.toNat default) true)] : List Reading) l50.length 1 rfl rfl)) ?_
          refine A_pure (.v (.one (.bptr 6 0 1))) [14] [] (True) (by kernel_rfl) trivial ?_
          refine A_run ⟨true, .undef, [], [(6, (0, .box 24 [.val (.int .i64 a1.Z), .own 1001 1 3 (l50.length + 1)]))], [113, 114], [6]⟩ (by kernel_rfl) (Step_store_box 22 (.tmp 114) (.tmp 113) 6 0 1 24 [.val (.int .i64 a1.Z), .own 1001 0 3 l50.length] (.one (.own 1001 1 3 (l50.length + 1))) [.val (.int .i64 a1.Z), .own 1001 1 3 (l50.length + 1)] (by kernel_rfl) (by kernel_rfl) (by kernel_rfl) (by kernel_rfl) (by kernel_rfl) (by kernel_rfl) (by kernel_rfl) (by kernel_rfl)) ?_
          exact A_end
        · refine R_seq (nd Tryd.f8 [1, 1, 1, 1, 1, 1, 1, 1, 1, 1, 0, 1, 0, 0, 1, 0, 0, 1, 0]) (nd Tryd.f8 [1, 1, 1, 1, 1, 1, 1, 1, 1, 1, 0, 1, 0, 0, 1, 0, 0, 1, 1]) (by kernel_rfl) ?_
          refine R_region 19 (rg Tryd.f8 [1, 1, 1, 1, 1, 1, 1, 1, 1, 1, 0, 1, 0, 0, 1, 0, 0, 1, 0]) (by kernel_rfl) ?_
          have k57 : opsOk 261 (rg Tryd.f8 [1, 1, 1, 1, 1, 1, 1, 1, 1, 1, 0, 1, 0, 0, 1, 0, 0, 1, 0]) = true := by kernel_rfl
          refine P_op k57 (.v (.one (.bptr 1 0 1))) (by kernel_rfl) ?_
          refine P_op k57 (.v (.one (tl e_Reading default a1.Read))) (by kernel_rfl) ?_
          refine P_op k57 (.v (.one (.val (.int .i64 x49)))) (by kernel_rfl) ?_
          obtain ⟨g58, hm⟩ := bif_n hm
          refine P_opc k57 (.v (.one (.lptr (e_Reading (a1.Read.getD x49.toNat default))))) (0 ≤ x49 ∧ x49 < ((a1.Read.length : Nat) : Int)) (by kernel_rfl) (inb_of g58) ?_
          refine P_op k57 (.v (.one (.lptr (e_Reading (a1.Read.getD x49.toNat default))))) (by kernel_rfl) ?_
          refine P_op k57 (.v (.agg [.val (.int .i64 (((a1.Read.getD x49.toNat default).P).X)), .val (.int .i64 (((a1.Read.getD x49.toNat default).P).Y))])) (by kernel_rfl) ?_
          refine P_step k57 ([(8, 0)]) ([(8, (0, .box 38 [.val (.int .i64 0), .val (.int .i64 0)]))]) (.v (.one (.bptr 8 0 0))) (by kernel_rfl) (Step_alloc 38 8 0 [.val (.int .i64 0), .val (.int .i64 0)] (by kernel_rfl) (by kernel_rfl) (by kernel_rfl)) ?_
          refine P_write k57 ([(8, (0, .box 38 [.val (.int .i64 (((a1.Read.getD x49.toNat default).P).X)), .val (.int .i64 (((a1.Read.getD x49.toNat default).P).Y))]))]) (.undef) (by kernel_rfl) (Step_store_box 38 (.tmp 16) (.tmp 120) 8 0 0 38 [.val (.int .i64 0), .val (.int .i64 0)] (.agg [.val (.int .i64 (((a1.Read.getD x49.toNat default).P).X)), .val (.int .i64 (((a1.Read.getD x49.toNat default).P).Y))]) [.val (.int .i64 (((a1.Read.getD x49.toNat default).P).X)), .val (.int .i64 (((a1.Read.getD x49.toNat default).P).Y))] (by kernel_rfl) (by kernel_rfl) (by kernel_rfl) (by kernel_rfl) (by kernel_rfl) (by kernel_rfl) (by kernel_rfl) (by kernel_rfl)) ?_
          refine HOps_end (by kernel_rfl) ?_
          refine R_seq (nd Tryd.f8 [1, 1, 1, 1, 1, 1, 1, 1, 1, 1, 0, 1, 0, 0, 1, 0, 0, 1, 1, 0]) (nd Tryd.f8 [1, 1, 1, 1, 1, 1, 1, 1, 1, 1, 0, 1, 0, 0, 1, 0, 0, 1, 1, 1]) (by kernel_rfl) ?_
          refine R_seq (nd Tryd.f8 [1, 1, 1, 1, 1, 1, 1, 1, 1, 1, 0, 1, 0, 0, 1, 0, 0, 1, 1, 0, 0]) (nd Tryd.f8 [1, 1, 1, 1, 1, 1, 1, 1, 1, 1, 0, 1, 0, 0, 1, 0, 0, 1, 1, 0, 1]) (by kernel_rfl) ?_
          refine R_region 20 (rg Tryd.f8 [1, 1, 1, 1, 1, 1, 1, 1, 1, 1, 0, 1, 0, 0, 1, 0, 0, 1, 1, 0, 0]) (by kernel_rfl) ?_
          have k59 : opsOk 261 (rg Tryd.f8 [1, 1, 1, 1, 1, 1, 1, 1, 1, 1, 0, 1, 0, 0, 1, 0, 0, 1, 1, 0, 0]) = true := by kernel_rfl
          refine P_op k59 (.v (.one (.bptr 1 0 1))) (by kernel_rfl) ?_
          refine P_op k59 (.v (.one (tl e_Reading default a1.Read))) (by kernel_rfl) ?_
          refine P_op k59 (.v (.one (.val (.int .i64 x49)))) (by kernel_rfl) ?_
          refine P_opc k59 (.v (.one (.lptr (e_Reading (a1.Read.getD x49.toNat default))))) (0 ≤ x49 ∧ x49 < ((a1.Read.length : Nat) : Int)) (by kernel_rfl) (inb_of g58) ?_
          refine P_op k59 (.v (.one (.lptr ((e_Reading (a1.Read.getD x49.toNat default)).drop 2)))) (by kernel_rfl) ?_
          refine P_op k59 (.v (.one (.val (.bool ((a1.Read.getD x49.toNat default).Ok))))) (by kernel_rfl) ?_
          refine P_op k59 (.v (.one (.val (.bool (!((a1.Read.getD x49.toNat default).Ok)))))) (by kernel_rfl) ?_
          refine HOps_end (by kernel_rfl) ?_
          refine R_cond (.tmp 127) (nd Tryd.f8 [1, 1, 1, 1, 1, 1, 1, 1, 1, 1, 0, 1, 0, 0, 1, 0, 0, 1, 1, 0, 1, 0]) (nd Tryd.f8 [1, 1, 1, 1, 1, 1, 1, 1, 1, 1, 0, 1, 0, 0, 1, 0, 0, 1, 1, 0, 1, 1]) (by kernel_rfl) (!((a1.Read.getD x49.toNat default).Ok)) (by kernel_rfl) (fun b60 => ?_) (fun b60 => ?_)
          · replace hm := bif_t b60 hm
            refine R_exit 1 (by kernel_rfl) ?_
            exact J_mk (x48, x51, x52) hm (by kernel_rfl) (by kernel_rfl)
          · replace hm := bif_f b60 hm
            refine R_skip (by kernel_rfl) ?_
            refine R_seq (nd Tryd.f8 [1, 1, 1, 1, 1, 1, 1, 1, 1, 1, 0, 1, 0, 0, 1, 0, 0, 1, 1, 1, 0]) (nd Tryd.f8 [1, 1, 1, 1, 1, 1, 1, 1, 1, 1, 0, 1, 0, 0, 1, 0, 0, 1, 1, 1, 1]) (by kernel_rfl) ?_
            refine R_seq (nd Tryd.f8 [1, 1, 1, 1, 1, 1, 1, 1, 1, 1, 0, 1, 0, 0, 1, 0, 0, 1, 1, 1, 0, 0]) (nd Tryd.f8 [1, 1, 1, 1, 1, 1, 1, 1, 1, 1, 0, 1, 0, 0, 1, 0, 0, 1, 1, 1, 0, 1]) (by kernel_rfl) ?_
            refine R_draw 21 (rg Tryd.f8 [1, 1, 1, 1, 1, 1, 1, 1, 1, 1, 0, 1, 0, 0, 1, 0, 0, 1, 1, 1, 0, 0]) (by kernel_rfl) [⟨true, .v (.agg [.val (.int .i64 (((a1.Read.getD x49.toNat default).P).X)), .val (.int .i64 (((a1.Read.getD x49.toNat default).P).Y))]), [], [], [16], [8]⟩, ⟨true, .v (.one (.own 3 0 2 v22.1.length)), [], [], [7], []⟩, ⟨true, .v (.one (.val (.int .i64 x49))), [], [], [15], []⟩, ⟨true, .v (.one (.rptr 3 0 2 x49.toNat 0)), [], [], [129, 130], []⟩, ⟨true, .v (.agg [.val (.int .i64 ((v22.1.getD x49.toNat default).X)), .val (.int .i64 ((v22.1.getD x49.toNat default).Y))]), [], [], [131], [3]⟩, ⟨true, .v (.one (.val (.bool (!((((a1.Read.getD x49.toNat default).P).X == (v22.1.getD x49.toNat default).X) && ((((a1.Read.getD x49.toNat default).P).Y == (v22.1.getD x49.toNat default).Y) && true)))))), [], [], [128, 132], []⟩] [0, 0, 0, 6, 14, 31] (by kernel_rfl) (by kernel_rfl) (by kernel_rfl) (by kernel_rfl) (by kernel_rfl) (by kernel_rfl) ?_ ?_
            · refine A_pure (.v (.agg [.val (.int .i64 (((a1.Read.getD x49.toNat default).P).X)), .val (.int .i64 (((a1.Read.getD x49.toNat default).P).Y))])) [16] [8] (True) (by kernel_rfl) trivial ?_
              refine A_pure (.v (.one (.own 3 0 2 v22.1.length))) [7] [] (True) (by kernel_rfl) trivial ?_
              refine A_pure (.v (.one (.val (.int .i64 x49)))) [15] [] (True) (by kernel_rfl) trivial ?_
              refine A_pure (.v (.one (.rptr 3 0 2 x49.toNat 0))) [129, 130] [] (0 ≤ x49 ∧ x49 < ((v22.1.length : Nat) : Int)) (by kernel_rfl) (inb_of g55) ?_
              refine A_pure (.v (.agg [.val (.int .i64 ((v22.1.getD x49.toNat default).X)), .val (.int .i64 ((v22.1.getD x49.toNat default).Y))])) [131] [3] (x49.toNat < v22.1.length) (by kernel_rfl) (toNat_lt (inb_of g55)) ?_
              refine A_pure (.v (.one (.val (.bool (!((((a1.Read.getD x49.toNat default).P).X == (v22.1.getD x49.toNat default).X) && ((((a1.Read.getD x49.toNat default).P).Y == (v22.1.getD x49.toNat default).Y) && true))))))) [128, 132] [] (True) (by kernel_rfl) trivial ?_
              exact A_end
            · refine R_cond (.tmp 133) (nd Tryd.f8 [1, 1, 1, 1, 1, 1, 1, 1, 1, 1, 0, 1, 0, 0, 1, 0, 0, 1, 1, 1, 0, 1, 0]) (nd Tryd.f8 [1, 1, 1, 1, 1, 1, 1, 1, 1, 1, 0, 1, 0, 0, 1, 0, 0, 1, 1, 1, 0, 1, 1]) (by kernel_rfl) (!((((a1.Read.getD x49.toNat default).P).X == (v22.1.getD x49.toNat default).X) && ((((a1.Read.getD x49.toNat default).P).Y == (v22.1.getD x49.toNat default).Y) && true))) (by kernel_rfl) (fun b61 => ?_) (fun b61 => ?_)
              · replace hm := bif_t b61 hm
                refine R_seq (nd Tryd.f8 [1, 1, 1, 1, 1, 1, 1, 1, 1, 1, 0, 1, 0, 0, 1, 0, 0, 1, 1, 1, 0, 1, 0, 0]) (nd Tryd.f8 [1, 1, 1, 1, 1, 1, 1, 1, 1, 1, 0, 1, 0, 0, 1, 0, 0, 1, 1, 1, 0, 1, 0, 1]) (by kernel_rfl) ?_
                refine R_region 22 (rg Tryd.f8 [1, 1, 1, 1, 1, 1, 1, 1, 1, 1, 0, 1, 0, 0, 1, 0, 0, 1, 1, 1, 0, 1, 0, 0]) (by kernel_rfl) ?_
                have k62 : opsOk 261 (rg Tryd.f8 [1, 1, 1, 1, 1, 1, 1, 1, 1, 1, 0, 1, 0, 0, 1, 0, 0, 1, 1, 1, 0, 1, 0, 0]) = true := by kernel_rfl
                refine P_op k62 (.v (.one (.val (.bool false)))) (by kernel_rfl) ?_
                refine HOps_end (by kernel_rfl) ?_
                obtain rfl := Option.some.inj hm
                refine R_ret (by kernel_rfl) ?_
                refine L1_ret false ?_
                exact ret_mk (by kernel_rfl) (by kernel_rfl)
              · replace hm := bif_f b61 hm
                refine R_skip (by kernel_rfl) ?_
                refine R_join (ι := Bool × Point × Point) (nd Tryd.f8 [1, 1, 1, 1, 1, 1, 1, 1, 1, 1, 0, 1, 0, 0, 1, 0, 0, 1, 1, 1, 1, 0]) (nd Tryd.f8 [1, 1, 1, 1, 1, 1, 1, 1, 1, 1, 0, 1, 0, 0, 1, 0, 0, 1, 1, 1, 1, 1]) (by kernel_rfl) (fun p => law12_RingFills_k6_S a1 v22 x49 l50 p.1 p.2.1 p.2.2) (fun p => law12_RingFills_k6 a1 v22 x49 l50 (law12_RingFills_L5 a1 v22 n) p.1 p.2.1 p.2.2 = some res) ?_ ?_
                · rintro ⟨x65, x66, x67⟩ hm
                  show H _ (law12_RingFills_k6_S a1 v22 x49 l50 x65 x66 x67) (nd Tryd.f8 [1, 1, 1, 1, 1, 1, 1, 1, 1, 1, 0, 1, 0, 0, 1, 0, 0, 1, 1, 1, 1, 1]) _
                  refine R_seq (nd Tryd.f8 [1, 1, 1, 1, 1, 1, 1, 1, 1, 1, 0, 1, 0, 0, 1, 0, 0, 1, 1, 1, 1, 1, 0]) (nd Tryd.f8 [1, 1, 1, 1, 1, 1, 1, 1, 1, 1, 0, 1, 0, 0, 1, 0, 0, 1, 1, 1, 1, 1, 1]) (by kernel_rfl) ?_
                  refine R_region 25 (rg Tryd.f8 [1, 1, 1, 1, 1, 1, 1, 1, 1, 1, 0, 1, 0, 0, 1, 0, 0, 1, 1, 1, 1, 1, 0]) (by kernel_rfl) ?_
                  have k68 : opsOk 261 (rg Tryd.f8 [1, 1, 1, 1, 1, 1, 1, 1, 1, 1, 0, 1, 0, 0, 1, 0, 0, 1, 1, 1, 1, 1, 0]) = true := by kernel_rfl
                  refine P_op k68 (.v (.one (.bptr 4 0 0))) (by kernel_rfl) ?_
                  refine P_op k68 (.v (.one (.val (.int .i64 x67.X)))) (by kernel_rfl) ?_
                  refine P_op k68 (.v (.one (.bptr 8 0 0))) (by kernel_rfl) ?_
                  refine P_op k68 (.v (.one (.val (.int .i64 (((a1.Read.getD x49.toNat default).P).X))))) (by kernel_rfl) ?_
                  refine P_op k68 (.v (.one (.val (.int .i64 (imin x67.X (((a1.Read.getD x49.toNat default).P).X)))))) (by kernel_rfl) ?_
                  refine P_op k68 (.v (.one (.bptr 4 0 1))) (by kernel_rfl) ?_
                  refine P_op k68 (.v (.one (.val (.int .i64 x67.Y)))) (by kernel_rfl) ?_
                  refine P_op k68 (.v (.one (.bptr 8 0 1))) (by kernel_rfl) ?_
                  refine P_op k68 (.v (.one (.val (.int .i64 (((a1.Read.getD x49.toNat default).P).Y))))) (by kernel_rfl) ?_
                  refine P_op k68 (.v (.one (.val (.int .i64 (imin x67.Y (((a1.Read.getD x49.toNat default).P).Y)))))) (by kernel_rfl) ?_
                  refine P_op k68 (.v (.agg [.val (.int .i64 (imin x67.X (((a1.Read.getD x49.toNat default).P).X))), .val (.int .i64 (imin x67.Y (((a1.Read.getD x49.toNat default).P).Y)))])) (by kernel_rfl) ?_
                  refine P_write k68 ([(4, (0, .box 38 [.val (.int .i64 (imin x67.X (((a1.Read.getD x49.toNat default).P).X))), .val (.int .i64 (imin x67.Y (((a1.Read.getD x49.toNat default).P).Y)))]))]) (.undef) (by kernel_rfl) (Step_store_box 38 (.tmp 11) (.tmp 148) 4 0 0 38 [.val (.int .i64 x67.X), .val (.int .i64 x67.Y)] (.agg [.val (.int .i64 (imin x67.X (((a1.Read.getD x49.toNat default).P).X))), .val (.int .i64 (imin x67.Y (((a1.Read.getD x49.toNat default).P).Y)))]) [.val (.int .i64 (imin x67.X (((a1.Read.getD x49.toNat default).P).X))), .val (.int .i64 (imin x67.Y (((a1.Read.getD x49.toNat default).P).Y)))] (by kernel_rfl) (by kernel_rfl) (by kernel_rfl) (by kernel_rfl) (by kernel_rfl) (by kernel_rfl) (by kernel_rfl) (by kernel_rfl)) ?_
                  refine HOps_end (by kernel_rfl) ?_
                  refine R_region 26 (rg Tryd.f8 [1, 1, 1, 1, 1, 1, 1, 1, 1, 1, 0, 1, 0, 0, 1, 0, 0, 1, 1, 1, 1, 1, 1]) (by kernel_rfl) ?_
                  have k69 : opsOk 261 (rg Tryd.f8 [1, 1, 1, 1, 1, 1, 1, 1, 1, 1, 0, 1, 0, 0, 1, 0, 0, 1, 1, 1, 1, 1, 1]) = true := by kernel_rfl
                  refine P_op k69 (.v (.one (.bptr 5 0 0))) (by kernel_rfl) ?_
                  refine P_op k69 (.v (.one (.val (.int .i64 x66.X)))) (by kernel_rfl) ?_
                  refine P_op k69 (.v (.one (.bptr 8 0 0))) (by kernel_rfl) ?_
                  refine P_op k69 (.v (.one (.val (.int .i64 (((a1.Read.getD x49.toNat default).P).X))))) (by kernel_rfl) ?_
                  refine P_op k69 (.v (.one (.val (.int .i64 (imax x66.X (((a1.Read.getD x49.toNat default).P).X)))))) (by kernel_rfl) ?_
                  refine P_op k69 (.v (.one (.bptr 5 0 1))) (by kernel_rfl) ?_
                  refine P_op k69 (.v (.one (.val (.int .i64 x66.Y)))) (by kernel_rfl) ?_
                  refine P_op k69 (.v (.one (.bptr 8 0 1))) (by kernel_rfl) ?_
                  refine P_op k69 (.v (.one (.val (.int .i64 (((a1.Read.getD x49.toNat default).P).Y))))) (by kernel_rfl) ?_
                  refine P_op k69 (.v (.one (.val (.int .i64 (imax x66.Y (((a1.Read.getD x49.toNat default).P).Y)))))) (by kernel_rfl) ?_
                  refine P_op k69 (.v (.agg [.val (.int .i64 (imax x66.X (((a1.Read.getD x49.toNat default).P).X))), .val (.int .i64 (imax x66.Y (((a1.Read.getD x49.toNat default).P).Y)))])) (by kernel_rfl) ?_
                  refine P_write k69 ([(5, (0, .box 38 [.val (.int .i64 (imax x66.X (((a1.Read.getD x49.toNat default).P).X))), .val (.int .i64 (imax x66.Y (((a1.Read.getD x49.toNat default).P).Y)))]))]) (.undef) (by kernel_rfl) (Step_store_box 38 (.tmp 12) (.tmp 159) 5 0 0 38 [.val (.int .i64 x66.X), .val (.int .i64 x66.Y)] (.agg [.val (.int .i64 (imax x66.X (((a1.Read.getD x49.toNat default).P).X))), .val (.int .i64 (imax x66.Y (((a1.Read.getD x49.toNat default).P).Y)))]) [.val (.int .i64 (imax x66.X (((a1.Read.getD x49.toNat default).P).X))), .val (.int .i64 (imax x66.Y (((a1.Read.getD x49.toNat default).P).Y)))] (by kernel_rfl) (by kernel_rfl) (by kernel_rfl) (by kernel_rfl) (by kernel_rfl) (by kernel_rfl) (by kernel_rfl) (by kernel_rfl)) ?_
                  refine HOps_end (by kernel_rfl) ?_
                  exact J_mk (x65, (Point.mk (imax x66.X (((a1.Read.getD x49.toNat default).P).X)) (imax x66.Y (((a1.Read.getD x49.toNat default).P).Y))), (Point.mk (imin x67.X (((a1.Read.getD x49.toNat default).P).X)) (imin x67.Y (((a1.Read.getD x49.toNat default).P).Y)))) hm (by kernel_rfl) (by kernel_rfl)
                · refine R_seq (nd Tryd.f8 [1, 1, 1, 1, 1, 1, 1, 1, 1, 1, 0, 1, 0, 0, 1, 0, 0, 1, 1, 1, 1, 0, 0]) (nd Tryd.f8 [1, 1, 1, 1, 1, 1, 1, 1, 1, 1, 0, 1, 0, 0, 1, 0, 0, 1, 1, 1, 1, 0, 1]) (by kernel_rfl) ?_
                  refine R_region 23 (rg Tryd.f8 [1, 1, 1, 1, 1, 1, 1, 1, 1, 1, 0, 1, 0, 0, 1, 0, 0, 1, 1, 1, 1, 0, 0]) (by kernel_rfl) ?_
                  have k63 : opsOk 261 (rg Tryd.f8 [1, 1, 1, 1, 1, 1, 1, 1, 1, 1, 0, 1, 0, 0, 1, 0, 0, 1, 1, 1, 1, 0, 0]) = true := by kernel_rfl
                  refine P_op k63 (.v (.one (.val (.bool x48)))) (by kernel_rfl) ?_
                  refine P_op k63 (.v (.one (.val (.bool (!x48))))) (by kernel_rfl) ?_
                  refine HOps_end (by kernel_rfl) ?_
                  refine R_cond (.tmp 135) (nd Tryd.f8 [1, 1, 1, 1, 1, 1, 1, 1, 1, 1, 0, 1, 0, 0, 1, 0, 0, 1, 1, 1, 1, 0, 1, 0]) (nd Tryd.f8 [1, 1, 1, 1, 1, 1, 1, 1, 1, 1, 0, 1, 0, 0, 1, 0, 0, 1, 1, 1, 1, 0, 1, 1]) (by kernel_rfl) (!x48) (by kernel_rfl) (fun b64 => ?_) (fun b64 => ?_)
                  · replace hm := bif_t b64 hm
                    refine R_draw 24 (rg Tryd.f8 [1, 1, 1, 1, 1, 1, 1, 1, 1, 1, 0, 1, 0, 0, 1, 0, 0, 1, 1, 1, 1, 0, 1, 0]) (by kernel_rfl) [⟨true, .v (.agg [.val (.int .i64 (((a1.Read.getD x49.toNat default).P).X)), .val (.int .i64 (((a1.Read.getD x49.toNat default).P).Y))]), [], [], [16], [8]⟩, ⟨true, .v (.agg [.val (.int .i64 (((a1.Read.getD x49.toNat default).P).X)), .val (.int .i64 (((a1.Read.getD x49.toNat default).P).Y))]), [], [], [16], [8]⟩, ⟨true, .undef, [], [(4, (0, .box 38 [.val (.int .i64 (((a1.Read.getD x49.toNat default).P).X)), .val (.int .i64 (((a1.Read.getD x49.toNat default).P).Y))]))], [11, 136], [4]⟩, ⟨true, .undef, [], [(5, (0, .box 38 [.val (.int .i64 (((a1.Read.getD x49.toNat default).P).X)), .val (.int .i64 (((a1.Read.getD x49.toNat default).P).Y))]))], [12, 137], [5]⟩, ⟨true, .v (.one (.val (.bool true))), [], [], [], []⟩] [0, 0, 1, 7, 15] (by kernel_rfl) (by kernel_rfl) (by kernel_rfl) (by kernel_rfl) (by kernel_rfl) (by kernel_rfl) ?_ ?_
                    · refine A_pure (.v (.agg [.val (.int .i64 (((a1.Read.getD x49.toNat default).P).X)), .val (.int .i64 (((a1.Read.getD x49.toNat default).P).Y))])) [16] [8] (True) (by kernel_rfl) trivial ?_
                      refine A_pure (.v (.agg [.val (.int .i64 (((a1.Read.getD x49.toNat default).P).X)), .val (.int .i64 (((a1.Read.getD x49.toNat default).P).Y))])) [16] [8] (True) (by kernel_rfl) trivial ?_
                      refine A_run ⟨true, .undef, [], [(4, (0, .box 38 [.val (.int .i64 (((a1.Read.getD x49.toNat default).P).X)), .val (.int .i64 (((a1.Read.getD x49.toNat default).P).Y))]))], [11, 136], [4]⟩ (by kernel_rfl) (Step_store_box 38 (.tmp 11) (.tmp 136) 4 0 0 38 [.val (.int .i64 x52.X), .val (.int .i64 x52.Y)] (.agg [.val (.int .i64 (((a1.Read.getD x49.toNat default).P).X)), .val (.int .i64 (((a1.Read.getD x49.toNat default).P).Y))]) [.val (.int .i64 (((a1.Read.getD x49.toNat default).P).X)), .val (.int .i64 (((a1.Read.getD x49.toNat default).P).Y))] (by kernel_rfl) (by kernel_rfl) (by kernel_rfl) (by kernel_rfl) (by kernel_rfl) (by kernel_rfl) (by kernel_rfl) (by kernel_rfl)) ?_
                      refine A_run ⟨true, .undef, [], [(5, (0, .box 38 [.val (.int .i64 (((a1.Read.getD x49.toNat default).P).X)), .val (.int .i64 (((a1.Read.getD x49.toNat default).P).Y))]))], [12, 137], [5]⟩ (by kernel_rfl) (Step_store_box 38 (.tmp 12) (.tmp 137) 5 0 0 38 [.val (.int .i64 x51.X), .val (.int .i64 x51.Y)] (.agg [.val (.int .i64 (((a1.Read.getD x49.toNat default).P).X)), .val (.int .i64 (((a1.Read.getD x49.toNat default).P).Y))]) [.val (.int .i64 (((a1.Read.getD x49.toNat default).P).X)), .val (.int .i64 (((a1.Read.getD x49.toNat default).P).Y))] (by kernel_rfl) (by kernel_rfl) (by kernel_rfl) (by kernel_rfl) (by kernel_rfl) (by kernel_rfl) (by kernel_rfl) (by kernel_rfl)) ?_
                      refine A_pure (.v (.one (.val (.bool true)))) [] [] (True) (by kernel_rfl) trivial ?_
                      exact A_end
                    · exact J_mk (true, (a1.Read.getD x49.toNat default).P, (a1.Read.getD x49.toNat default).P) hm (by kernel_rfl) (by kernel_rfl)
                  · replace hm := bif_f b64 hm
                    refine R_skip (by kernel_rfl) ?_
                    exact J_mk (x48, x51, x52) hm (by kernel_rfl) (by kernel_rfl)
    · replace hm := bif_f b54 hm
      refine R_exit 0 (by kernel_rfl) ?_
      obtain rfl := Option.some.inj hm
      exact L1_mk (l50, x51, x52) (by kernel_rfl) (by kernel_rfl)

set_option maxRecDepth 100000 in
theorem law12_RingFills_L8_ok (w : World) (A : Nat → Prop) (hg : Globs globs w A) (a1 : Ring) (v22 : (List Point) × Int) (o77 : (List Reading) × Point × Point) : ∀ (n : Nat) (x82 : Int) (res : Bool ⊕ Unit), law12_RingFills_L8 v22 o77 n x82 = some res → HL ({ P := Tryd.prog, w0 := w, nt := 261, A := A, globs := globs, mixed := mixed, glob := hg } : Ctx) (nd Tryd.f8 [1, 1, 1, 1, 1, 1, 1, 1, 1, 1, 1, 0, 1, 0, 0]) (loopQ 2 (fun o => law12_RingFills_L8_T a1 v22 o77) (fun v st => RetQ Tryd.prog Tryd.f8 (law12_RingFills_x v) (law12_RingFills_o v) .ret st) res) n (law12_RingFills_L8_S a1 v22 o77 x82) := by
  intro n
  induction n with
  | zero =>
    intro x82 res hm
    cases hm
  | succ n ih =>
    intro x82 res hm
    refine HL_succ ?_
    refine R_seq (nd Tryd.f8 [1, 1, 1, 1, 1, 1, 1, 1, 1, 1, 1, 0, 1, 0, 0, 0]) (nd Tryd.f8 [1, 1, 1, 1, 1, 1, 1, 1, 1, 1, 1, 0, 1, 0, 0, 1]) (by kernel_rfl) ?_
    refine R_seq (nd Tryd.f8 [1, 1, 1, 1, 1, 1, 1, 1, 1, 1, 1, 0, 1, 0, 0, 0, 0]) (nd Tryd.f8 [1, 1, 1, 1, 1, 1, 1, 1, 1, 1, 1, 0, 1, 0, 0, 0, 1]) (by kernel_rfl) ?_
    refine R_region 28 (rg Tryd.f8 [1, 1, 1, 1, 1, 1, 1, 1, 1, 1, 1, 0, 1, 0, 0, 0, 0]) (by kernel_rfl) ?_
    have k83 : opsOk 261 (rg Tryd.f8 [1, 1, 1, 1, 1, 1, 1, 1, 1, 1, 1, 0, 1, 0, 0, 0, 0]) = true := by kernel_rfl
    refine P_op k83 (.v (.one (.val (.int .i64 x82)))) (by kernel_rfl) ?_
    refine P_op k83 (.v (.one (.own 3 0 2 v22.1.length))) (by kernel_rfl) ?_
    refine P_op k83 (.v (.one (.val (.int .i64 ((v22.1.length : Nat) : Int))))) (by kernel_rfl) ?_
    refine P_op k83 (.v (.one (.val (.bool (decide (x82 < ((v22.1.length : Nat) : Int))))))) (by kernel_rfl) ?_
    refine HOps_end (by kernel_rfl) ?_
    refine R_cond (.tmp 163) (nd Tryd.f8 [1, 1, 1, 1, 1, 1, 1, 1, 1, 1, 1, 0, 1, 0, 0, 0, 1, 0]) (nd Tryd.f8 [1, 1, 1, 1, 1, 1, 1, 1, 1, 1, 1, 0, 1, 0, 0, 0, 1, 1]) (by kernel_rfl) (decide (x82 < ((v22.1.length : Nat) : Int))) (by kernel_rfl) (fun b84 => ?_) (fun b84 => ?_)
    · replace hm := bif_t b84 hm
      refine R_skip (by kernel_rfl) ?_
      refine R_seq (nd Tryd.f8 [1, 1, 1, 1, 1, 1, 1, 1, 1, 1, 1, 0, 1, 0, 0, 1, 0]) (nd Tryd.f8 [1, 1, 1, 1, 1, 1, 1, 1, 1, 1, 1, 0, 1, 0, 0, 1, 1]) (by kernel_rfl) ?_
      refine R_block 3 (nd Tryd.f8 [1, 1, 1, 1, 1, 1, 1, 1, 1, 1, 1, 0, 1, 0, 0, 1, 0, 0]) (by kernel_rfl) ?_
      refine R_join (ι := Bool) (nd Tryd.f8 [1, 1, 1, 1, 1, 1, 1, 1, 1, 1, 1, 0, 1, 0, 0, 1, 0, 0, 0]) (nd Tryd.f8 [1, 1, 1, 1, 1, 1, 1, 1, 1, 1, 1, 0, 1, 0, 0, 1, 0, 0, 1]) (by kernel_rfl) (fun p => law12_RingFills_k9_S a1 v22 o77 x82 p) (fun p => law12_RingFills_k9 x82 (law12_RingFills_L8 v22 o77 n) p = some res) ?_ ?_
      · rintro x89 hm
        show H _ (law12_RingFills_k9_S a1 v22 o77 x82 x89) (nd Tryd.f8 [1, 1, 1, 1, 1, 1, 1, 1, 1, 1, 1, 0, 1, 0, 0, 1, 0, 0, 1]) _
        refine R_cond (.tmp 203) (nd Tryd.f8 [1, 1, 1, 1, 1, 1, 1, 1, 1, 1, 1, 0, 1, 0, 0, 1, 0, 0, 1, 0]) (nd Tryd.f8 [1, 1, 1, 1, 1, 1, 1, 1, 1, 1, 1, 0, 1, 0, 0, 1, 0, 0, 1, 1]) (by kernel_rfl) x89 (by kernel_rfl) (fun b90 => ?_) (fun b90 => ?_)
        · replace hm := bif_t b90 hm
          refine R_seq (nd Tryd.f8 [1, 1, 1, 1, 1, 1, 1, 1, 1, 1, 1, 0, 1, 0, 0, 1, 0, 0, 1, 0, 0]) (nd Tryd.f8 [1, 1, 1, 1, 1, 1, 1, 1, 1, 1, 1, 0, 1, 0, 0, 1, 0, 0, 1, 0, 1]) (by kernel_rfl) ?_
          refine R_region 31 (rg Tryd.f8 [1, 1, 1, 1, 1, 1, 1, 1, 1, 1, 1, 0, 1, 0, 0, 1, 0, 0, 1, 0, 0]) (by kernel_rfl) ?_
          have k91 : opsOk 261 (rg Tryd.f8 [1, 1, 1, 1, 1, 1, 1, 1, 1, 1, 1, 0, 1, 0, 0, 1, 0, 0, 1, 0, 0]) = true := by kernel_rfl
          refine P_op k91 (.v (.one (.val (.bool false)))) (by kernel_rfl) ?_
          refine HOps_end (by kernel_rfl) ?_
          obtain rfl := Option.some.inj hm
          refine R_ret (by kernel_rfl) ?_
          refine L1_ret false ?_
          exact ret_mk (by kernel_rfl) (by kernel_rfl)
        · replace hm := bif_f b90 hm
          refine R_skip (by kernel_rfl) ?_
          refine R_region 29 (rg Tryd.f8 [1, 1, 1, 1, 1, 1, 1, 1, 1, 1, 1, 0, 1, 0, 0, 1, 1]) (by kernel_rfl) ?_
          have k92 : opsOk 261 (rg Tryd.f8 [1, 1, 1, 1, 1, 1, 1, 1, 1, 1, 1, 0, 1, 0, 0, 1, 1]) = true := by kernel_rfl
          refine P_op k92 (.v (.one (.val (.int .i64 x82)))) (by kernel_rfl) ?_
          refine P_op k92 (.v (.one (.val (.int .i64 (w64 (x82 + 1)))))) (by kernel_rfl) ?_
          refine P_op k92 (.v (.one (.val (.int .i64 (w64 (x82 + 1)))))) (by kernel_rfl) ?_
          refine HOps_end (by kernel_rfl) ?_
          exact HL_enter (law12_RingFills_L8_S a1 v22 o77 (w64 (x82 + 1))) (by kernel_rfl) (by kernel_rfl) (ih (w64 (x82 + 1)) _ hm)
      · obtain ⟨g85, hm⟩ := bif_n hm
        rcases Bool.eq_false_or_eq_true (decide (((v22.1.getD x82.toNat default).X) < o77.2.2.X)) with b86 | b86
        · replace hm := bif_t b86 hm
          refine R_draw 30 (rg Tryd.f8 [1, 1, 1, 1, 1, 1, 1, 1, 1, 1, 1, 0, 1, 0, 0, 1, 0, 0, 0]) (by kernel_rfl) [⟨true, .v (.one (.own 3 0 2 v22.1.length)), [], [], [7], []⟩, ⟨true, .v (.one (.val (.int .i64 x82))), [], [], [17], []⟩, ⟨true, .v (.one (.rptr 3 0 2 x82.toNat 0)), [], [], [166, 167], []⟩, ⟨true, .v (.one (.rptr 3 0 2 x82.toNat 0)), [], [], [168], []⟩, ⟨true, .v (.one (.val (.int .i64 ((v22.1.getD x82.toNat default).X)))), [], [], [169], [3]⟩, ⟨true, .v (.one (.bptr 4 0 0)), [], [], [11], []⟩, ⟨true, .v (.one (.val (.int .i64 o77.2.2.X))), [], [], [171], [4]⟩, ⟨true, .v (.one (.val (.bool (decide (((v22.1.getD x82.toNat default).X) < o77.2.2.X))))), [], [], [170, 172], []⟩, ⟨true, boolV true, [], [], [173], []⟩, ⟨false, .undef, [], [], [174], []⟩, ⟨false, .undef, [], [], [174], []⟩, ⟨false, .undef, [], [], [174], []⟩, ⟨false, .undef, [], [], [174], []⟩, ⟨false, .undef, [], [], [174], []⟩, ⟨false, .undef, [], [], [174], []⟩, ⟨false, .undef, [], [], [174], []⟩, ⟨false, .undef, [], [], [174], []⟩, ⟨true, .v (.one (.val (.bool true))), [], [], [174, 182], []⟩, ⟨true, .v (.one (.val (.bool true))), [], [], [183], []⟩, ⟨false, .undef, [], [], [184], []⟩, ⟨false, .undef, [], [], [184], []⟩, ⟨false, .undef, [], [], [184], []⟩, ⟨false, .undef, [], [], [184], []⟩, ⟨false, .undef, [], [], [184], []⟩, ⟨false, .undef, [], [], [184], []⟩, ⟨false, .undef, [], [], [184], []⟩, ⟨false, .undef, [], [], [184], []⟩, ⟨true, .v (.one (.val (.bool true))), [], [], [184, 192], []⟩, ⟨true, .v (.one (.val (.bool true))), [], [], [193], []⟩, ⟨false, .undef, [], [], [194], []⟩, ⟨false, .undef, [], [], [194], []⟩, ⟨false, .undef, [], [], [194], []⟩, ⟨false, .undef, [], [], [194], []⟩, ⟨false, .undef, [], [], [194], []⟩, ⟨false, .undef, [], [], [194], []⟩, ⟨false, .undef, [], [], [194], []⟩, ⟨false, .undef, [], [], [194], []⟩, ⟨true, .v (.one (.val (.bool true))), [], [], [194, 202], []⟩] [0, 0, 3, 7, 15, 0, 32, 127, 255, 511, 511, 2047, 4095, 8191, 511, 16895, 65535, 131071, 262143, 524287, 524287, 2097151, 4194303, 8388607, 524287, 17301503, 67108863, 134217727, 268435455, 536870911, 536870911, 2147483647, 4294967295, 8589934591, 536870911, 17716740095, 68719476735, 137438953471] (by kernel_rfl) (by kernel_rfl) (by kernel_rfl) (by kernel_rfl) (by kernel_rfl) (by kernel_rfl) ?_ ?_
          · refine A_pure (.v (.one (.own 3 0 2 v22.1.length))) [7] [] (True) (by kernel_rfl) trivial ?_
            refine A_pure (.v (.one (.val (.int .i64 x82)))) [17] [] (True) (by kernel_rfl) trivial ?_
            refine A_pure (.v (.one (.rptr 3 0 2 x82.toNat 0))) [166, 167] [] (0 ≤ x82 ∧ x82 < ((v22.1.length : Nat) : Int)) (by kernel_rfl) (inb_of g85) ?_
            refine A_pure (.v (.one (.rptr 3 0 2 x82.toNat 0))) [168] [] (True) (by kernel_rfl) trivial ?_
            refine A_pure (.v (.one (.val (.int .i64 ((v22.1.getD x82.toNat default).X))))) [169] [3] (x82.toNat < v22.1.length) (by kernel_rfl) (toNat_lt (inb_of g85)) ?_
            refine A_pure (.v (.one (.bptr 4 0 0))) [11] [] (True) (by kernel_rfl) trivial ?_
            refine A_pure (.v (.one (.val (.int .i64 o77.2.2.X)))) [171] [4] (True) (by kernel_rfl) trivial ?_
            refine A_pure (.v (.one (.val (.bool (decide (((v22.1.getD x82.toNat default).X) < o77.2.2.X)))))) [170, 172] [] (True) (by kernel_rfl) trivial ?_
            refine A_pureE (boolV true) (boolV (decide (((v22.1.getD x82.toNat default).X) < o77.2.2.X))) (congrArg boolV b86) [173] [] (True) (by kernel_rfl) trivial ?_
            refine A_skip [174] (by kernel_rfl) ?_
            refine A_skip [174] (by kernel_rfl) ?_
            refine A_skip [174] (by kernel_rfl) ?_
            refine A_skip [174] (by kernel_rfl) ?_
            refine A_skip [174] (by kernel_rfl) ?_
            refine A_skip [174] (by kernel_rfl) ?_
            refine A_skip [174] (by kernel_rfl) ?_
            refine A_skip [174] (by kernel_rfl) ?_
            refine A_pure (.v (.one (.val (.bool true)))) [174, 182] [] (True) (by kernel_rfl) trivial ?_
            refine A_pure (.v (.one (.val (.bool true)))) [183] [] (True) (by kernel_rfl) trivial ?_
            refine A_skip [184] (by kernel_rfl) ?_
            refine A_skip [184] (by kernel_rfl) ?_
            refine A_skip [184] (by kernel_rfl) ?_
            refine A_skip [184] (by kernel_rfl) ?_
            refine A_skip [184] (by kernel_rfl) ?_
            refine A_skip [184] (by kernel_rfl) ?_
            refine A_skip [184] (by kernel_rfl) ?_
            refine A_skip [184] (by kernel_rfl) ?_
            refine A_pure (.v (.one (.val (.bool true)))) [184, 192] [] (True) (by kernel_rfl) trivial ?_
            refine A_pure (.v (.one (.val (.bool true)))) [193] [] (True) (by kernel_rfl) trivial ?_
            refine A_skip [194] (by kernel_rfl) ?_
            refine A_skip [194] (by kernel_rfl) ?_
            refine A_skip [194] (by kernel_rfl) ?_
            refine A_skip [194] (by kernel_rfl) ?_
            refine A_skip [194] (by kernel_rfl) ?_
            refine A_skip [194] (by kernel_rfl) ?_
            refine A_skip [194] (by kernel_rfl) ?_
            refine A_skip [194] (by kernel_rfl) ?_
            refine A_pure (.v (.one (.val (.bool true)))) [194, 202] [] (True) (by kernel_rfl) trivial ?_
            exact A_end
          · exact J_mk (true) hm (by kernel_rfl) (by kernel_rfl)
        · replace hm := bif_f b86 hm
          rcases Bool.eq_false_or_eq_true (decide (((v22.1.getD x82.toNat default).X) > o77.2.1.X)) with b87 | b87
          · replace hm := bif_t b87 hm
            refine R_draw 30 (rg Tryd.f8 [1, 1, 1, 1, 1, 1, 1, 1, 1, 1, 1, 0, 1, 0, 0, 1, 0, 0, 0]) (by kernel_rfl) [⟨true, .v (.one (.own 3 0 2 v22.1.length)), [], [], [7], []⟩, ⟨true, .v (.one (.val (.int .i64 x82))), [], [], [17], []⟩, ⟨true, .v (.one (.rptr 3 0 2 x82.toNat 0)), [], [], [166, 167], []⟩, ⟨true, .v (.one (.rptr 3 0 2 x82.toNat 0)), [], [], [168], []⟩, ⟨true, .v (.one (.val (.int .i64 ((v22.1.getD x82.toNat default).X)))), [], [], [169], [3]⟩, ⟨true, .v (.one (.bptr 4 0 0)), [], [], [11], []⟩, ⟨true, .v (.one (.val (.int .i64 o77.2.2.X))), [], [], [171], [4]⟩, ⟨true, .v (.one (.val (.bool (decide (((v22.1.getD x82.toNat default).X) < o77.2.2.X))))), [], [], [170, 172], []⟩, ⟨true, boolV false, [], [], [173], []⟩, ⟨true, .v (.one (.own 3 0 2 v22.1.length)), [], [], [7, 174], []⟩, ⟨true, .v (.one (.val (.int .i64 x82))), [], [], [17, 174], []⟩, ⟨true, .v (.one (.rptr 3 0 2 x82.toNat 0)), [], [], [174, 175, 176], []⟩, ⟨true, .v (.one (.rptr 3 0 2 x82.toNat 0)), [], [], [174, 177], []⟩, ⟨true, .v (.one (.val (.int .i64 ((v22.1.getD x82.toNat default).X)))), [], [], [174, 178], [3]⟩, ⟨true, .v (.one (.bptr 5 0 0)), [], [], [12, 174], []⟩, ⟨true, .v (.one (.val (.int .i64 o77.2.1.X))), [], [], [174, 180], [5]⟩, ⟨true, .v (.one (.val (.bool (decide (((v22.1.getD x82.toNat default).X) > o77.2.1.X))))), [], [], [174, 179, 181], []⟩, ⟨true, .v (.one (.val (.bool (decide (((v22.1.getD x82.toNat default).X) > o77.2.1.X))))), [], [], [174, 182], []⟩, ⟨true, boolV true, [], [], [183], []⟩, ⟨false, .undef, [], [], [184], []⟩, ⟨false, .undef, [], [], [184], []⟩, ⟨false, .undef, [], [], [184], []⟩, ⟨false, .undef, [], [], [184], []⟩, ⟨false, .undef, [], [], [184], []⟩, ⟨false, .undef, [], [], [184], []⟩, ⟨false, .undef, [], [], [184], []⟩, ⟨false, .undef, [], [], [184], []⟩, ⟨true, .v (.one (.val (.bool true))), [], [], [184, 192], []⟩, ⟨true, .v (.one (.val (.bool true))), [], [], [193], []⟩, ⟨false, .undef, [], [], [194], []⟩, ⟨false, .undef, [], [], [194], []⟩, ⟨false, .undef, [], [], [194], []⟩, ⟨false, .undef, [], [], [194], []⟩, ⟨false, .undef, [], [], [194], []⟩, ⟨false, .undef, [], [], [194], []⟩, ⟨false, .undef, [], [], [194], []⟩, ⟨false, .undef, [], [], [194], []⟩, ⟨true, .v (.one (.val (.bool true))), [], [], [194, 202], []⟩] [0, 0, 3, 7, 15, 0, 32, 127, 255, 511, 511, 2047, 4095, 8191, 511, 16895, 65535, 131071, 262143, 524287, 524287, 2097151, 4194303, 8388607, 524287, 17301503, 67108863, 134217727, 268435455, 536870911, 536870911, 2147483647, 4294967295, 8589934591, 536870911, 17716740095, 68719476735, 137438953471] (by kernel_rfl) (by kernel_rfl) (by kernel_rfl) (by kernel_rfl) (by kernel_rfl) (by kernel_rfl) ?_ ?_
            · refine A_pure (.v (.one (.own 3 0 2 v22.1.length))) [7] [] (True) (by kernel_rfl) trivial ?_
              refine A_pure (.v (.one (.val (.int .i64 x82)))) [17] [] (True) (by kernel_rfl) trivial ?_
              refine A_pure (.v (.one (.rptr 3 0 2 x82.toNat 0))) [166, 167] [] (0 ≤ x82 ∧ x82 < ((v22.1.length : Nat) : Int)) (by kernel_rfl) (inb_of g85) ?_
              refine A_pure (.v (.one (.rptr 3 0 2 x82.toNat 0))) [168] [] (True) (by kernel_rfl) trivial ?_
              refine A_pure (.v (.one (.val (.int .i64 ((v22.1.getD x82.toNat default).X))))) [169] [3] (x82.toNat < v22.1.length) (by kernel_rfl) (toNat_lt (inb_of g85)) ?_
              refine A_pure (.v (.one (.bptr 4 0 0))) [11] [] (True) (by kernel_rfl) trivial ?_
              refine A_pure (.v (.one (.val (.int .i64 o77.2.2.X)))) [171] [4] (True) (by kernel_rfl) trivial ?_
              refine A_pure (.v (.one (.val (.bool (decide (((v22.1.getD x82.toNat default).X) < o77.2.2.X)))))) [170, 172] [] (True) (by kernel_rfl) trivial ?_
              refine A_pureE (boolV false) (boolV (decide (((v22.1.getD x82.toNat default).X) < o77.2.2.X))) (congrArg boolV b86) [173] [] (True) (by kernel_rfl) trivial ?_
              refine A_pure (.v (.one (.own 3 0 2 v22.1.length))) [7, 174] [] (True) (by kernel_rfl) trivial ?_
              refine A_pure (.v (.one (.val (.int .i64 x82)))) [17, 174] [] (True) (by kernel_rfl) trivial ?_
              refine A_pure (.v (.one (.rptr 3 0 2 x82.toNat 0))) [174, 175, 176] [] (0 ≤ x82 ∧ x82 < ((v22.1.length : Nat) : Int)) (by kernel_rfl) (inb_of g85) ?_
              refine A_pure (.v (.one (.rptr 3 0 2 x82.toNat 0))) [174, 177] [] (True) (by kernel_rfl) trivial ?_
              refine A_pure (.v (.one (.val (.int .i64 ((v22.1.getD x82.toNat default).X))))) [174, 178] [3] (x82.toNat < v22.1.length) (by kernel_rfl) (toNat_lt (inb_of g85)) ?_
              refine A_pure (.v (.one (.bptr 5 0 0))) [12, 174] [] (True) (by kernel_rfl) trivial ?_
              refine A_pure (.v (.one (.val (.int .i64 o77.2.1.X)))) [174, 180] [5] (True) (by kernel_rfl) trivial ?_
              refine A_pure (.v (.one (.val (.bool (decide (((v22.1.getD x82.toNat default).X) > o77.2.1.X)))))) [174, 179, 181] [] (True) (by kernel_rfl) trivial ?_
              refine A_pure (.v (.one (.val (.bool (decide (((v22.1.getD x82.toNat default).X) > o77.2.1.X)))))) [174, 182] [] (True) (by kernel_rfl) trivial ?_
              refine A_pureE (boolV true) (boolV (decide (((v22.1.getD x82.toNat default).X) > o77.2.1.X))) (congrArg boolV b87) [183] [] (True) (by kernel_rfl) trivial ?_
              refine A_skip [184] (by kernel_rfl) ?_
              refine A_skip [184] (by kernel_rfl) ?_
              refine A_skip [184] (by kernel_rfl) ?_
              refine A_skip [184] (by kernel_rfl) ?_
              refine A_skip [184] (by kernel_rfl) ?_
              refine A_skip [184] (by kernel_rfl) ?_
              refine A_skip [184] (by kernel_rfl) ?_
              refine A_skip [184] (by kernel_rfl) ?_
              refine A_pure (.v (.one (.val (.bool true)))) [184, 192] [] (True) (by kernel_rfl) trivial ?_
              refine A_pure (.v (.one (.val (.bool true)))) [193] [] (True) (by kernel_rfl) trivial ?_
              refine A_skip [194] (by kernel_rfl) ?_
              refine A_skip [194] (by kernel_rfl) ?_
              refine A_skip [194] (by kernel_rfl) ?_
              refine A_skip [194] (by kernel_rfl) ?_
              refine A_skip [194] (by kernel_rfl) ?_
              refine A_skip [194] (by kernel_rfl) ?_
              refine A_skip [194] (by kernel_rfl) ?_
              refine A_skip [194] (by kernel_rfl) ?_
              refine A_pure (.v (.one (.val (.bool true)))) [194, 202] [] (True) (by kernel_rfl) trivial ?_
              exact A_end
            · exact J_mk (true) hm (by kernel_rfl) (by kernel_rfl)
          · replace hm := bif_f b87 hm
            rcases Bool.eq_false_or_eq_true (decide (((v22.1.getD x82.toNat default).Y) < o77.2.2.Y)) with b88 | b88
            · replace hm := bif_t b88 hm
              refine R_draw 30 (rg Tryd.f8 [1, 1, 1, 1, 1, 1, 1, 1, 1, 1, 1, 0, 1, 0, 0, 1, 0, 0, 0]) (by kernel_rfl) [⟨true, .v (.one (.own 3 0 2 v22.1.length)), [], [], [7], []⟩, ⟨true, .v (.one (.val (.int .i64 x82))), [], [], [17], []⟩, ⟨true, .v (.one (.rptr 3 0 2 x82.toNat 0)), [], [], [166, 167], []⟩, ⟨true, .v (.one (.rptr 3 0 2 x82.toNat 0)), [], [], [168], []⟩, ⟨true, .v (.one (.val (.int .i64 ((v22.1.getD x82.toNat default).X)))), [], [], [169], [3]⟩, ⟨true, .v (.one (.bptr 4 0 0)), [], [], [11], []⟩, ⟨true, .v (.one (.val (.int .i64 o77.2.2.X))), [], [], [171], [4]⟩, ⟨true, .v (.one (.val (.bool (decide (((v22.1.getD x82.toNat default).X) < o77.2.2.X))))), [], [], [170, 172], []⟩, ⟨true, boolV false, [], [], [173], []⟩, ⟨true, .v (.one (.own 3 0 2 v22.1.length)), [], [], [7, 174], []⟩, ⟨true, .v (.one (.val (.int .i64 x82))), [], [], [17, 174], []⟩, ⟨true, .v (.one (.rptr 3 0 2 x82.toNat 0)), [], [], [174, 175, 176], []⟩, ⟨true, .v (.one (.rptr 3 0 2 x82.toNat 0)), [], [], [174, 177], []⟩, ⟨true, .v (.one (.val (.int .i64 ((v22.1.getD x82.toNat default).X)))), [], [], [174, 178], [3]⟩, ⟨true, .v (.one (.bptr 5 0 0)), [], [], [12, 174], []⟩, ⟨true, .v (.one (.val (.int .i64 o77.2.1.X))), [], [], [174, 180], [5]⟩, ⟨true, .v (.one (.val (.bool (decide (((v22.1.getD x82.toNat default).X) > o77.2.1.X))))), [], [], [174, 179, 181], []⟩, ⟨true, .v (.one (.val (.bool (decide (((v22.1.getD x82.toNat default).X) > o77.2.1.X))))), [], [], [174, 182], []⟩, ⟨true, boolV false, [], [], [183], []⟩, ⟨true, .v (.one (.own 3 0 2 v22.1.length)), [], [], [7, 184], []⟩, ⟨true, .v (.one (.val (.int .i64 x82))), [], [], [17, 184], []⟩, ⟨true, .v (.one (.rptr 3 0 2 x82.toNat 0)), [], [], [184, 185, 186], []⟩, ⟨true, .v (.one (.rptr 3 0 2 x82.toNat 1)), [], [], [184, 187], []⟩, ⟨true, .v (.one (.val (.int .i64 ((v22.1.getD x82.toNat default).Y)))), [], [], [184, 188], [3]⟩, ⟨true, .v (.one (.bptr 4 0 1)), [], [], [11, 184], []⟩, ⟨true, .v (.one (.val (.int .i64 o77.2.2.Y))), [], [], [184, 190], [4]⟩, ⟨true, .v (.one (.val (.bool (decide (((v22.1.getD x82.toNat default).Y) < o77.2.2.Y))))), [], [], [184, 189, 191], []⟩, ⟨true, .v (.one (.val (.bool (decide (((v22.1.getD x82.toNat default).Y) < o77.2.2.Y))))), [], [], [184, 192], []⟩, ⟨true, boolV true, [], [], [193], []⟩, ⟨false, .undef, [], [], [194], []⟩, ⟨false, .undef, [], [], [194], []⟩, ⟨false, .undef, [], [], [194], []⟩, ⟨false, .undef, [], [], [194], []⟩, ⟨false, .undef, [], [], [194], []⟩, ⟨false, .undef, [], [], [194], []⟩, ⟨false, .undef, [], [], [194], []⟩, ⟨false, .undef, [], [], [194], []⟩, ⟨true, .v (.one (.val (.bool true))), [], [], [194, 202], []⟩] [0, 0, 3, 7, 15, 0, 32, 127, 255, 511, 511, 2047, 4095, 8191, 511, 16895, 65535, 131071, 262143, 524287, 524287, 2097151, 4194303, 8388607, 524287, 17301503, 67108863, 134217727, 268435455, 536870911, 536870911, 2147483647, 4294967295, 8589934591, 536870911, 17716740095, 68719476735, 137438953471] (by kernel_rfl) (by kernel_rfl) (by kernel_rfl) (by kernel_rfl) (by kernel_rfl) (by kernel_rfl) ?_ ?_
              · refine A_pure (.v (.one (.own 3 0 2 v22.1.length))) [7] [] (True) (by kernel_rfl) trivial ?_
                refine A_pure (.v (.one (.val (.int .i64 x82)))) [17] [] (True) (by kernel_rfl) trivial ?_
                refine A_pure (.v (.one (.rptr 3 0 2 x82.toNat 0))) [166, 167] [] (0 ≤ x82 ∧ x82 < ((v22.1.length : Nat) : Int)) (by kernel_rfl) (inb_of g85) ?_
                refine A_pure (.v (.one (.rptr 3 0 2 x82.toNat 0))) [168] [] (True) (by kernel_rfl) trivial ?_
                refine A_pure (.v (.one (.val (.int .i64 ((v22.1.getD x82.toNat default).X))))) [169] [3] (x82.toNat < v22.1.length) (by kernel_rfl) (toNat_lt (inb_of g85)) ?_
                refine A_pure (.v (.one (.bptr 4 0 0))) [11] [] (True) (by kernel_rfl) trivial ?_
                refine A_pure (.v (.one (.val (.int .i64 o77.2.2.X)))) [171] [4] (True) (by kernel_rfl) trivial ?_
                refine A_pure (.v (.one (.val (.bool (decide (((v22.1.getD x82.toNat default).X) < o77.2.2.X)))))) [170, 172] [] (True) (by kernel_rfl) trivial ?_
                refine A_pureE (boolV false) (boolV (decide (((v22.1.getD x82.toNat default).X) < o77.2.2.X))) (congrArg boolV b86) [173] [] (True) (by kernel_rfl) trivial ?_
                refine A_pure (.v (.one (.own 3 0 2 v22.1.length))) [7, 174] [] (True) (by kernel_rfl) trivial ?_
                refine A_pure (.v (.one (.val (.int .i64 x82)))) [17, 174] [] (True) (by kernel_rfl) trivial ?_
                refine A_pure (.v (.one (.rptr 3 0 2 x82.toNat 0))) [174, 175, 176] [] (0 ≤ x82 ∧ x82 < ((v22.1.length : Nat) : Int)) (by kernel_rfl) (inb_of g85) ?_
                refine A_pure (.v (.one (.rptr 3 0 2 x82.toNat 0))) [174, 177] [] (True) (by kernel_rfl) trivial ?_
                refine A_pure (.v (.one (.val (.int .i64 ((v22.1.getD x82.toNat default).X))))) [174, 178] [3] (x82.toNat < v22.1.length) (by kernel_rfl) (toNat_lt (inb_of g85)) ?_
                refine A_pure (.v (.one (.bptr 5 0 0))) [12, 174] [] (True) (by kernel_rfl) trivial ?_
                refine A_pure (.v (.one (.val (.int .i64 o77.2.1.X)))) [174, 180] [5] (True) (by kernel_rfl) trivial ?_
                refine A_pure (.v (.one (.val (.bool (decide (((v22.1.getD x82.toNat default).X) > o77.2.1.X)))))) [174, 179, 181] [] (True) (by kernel_rfl) trivial ?_
                refine A_pure (.v (.one (.val (.bool (decide (((v22.1.getD x82.toNat default).X) > o77.2.1.X)))))) [174, 182] [] (True) (by kernel_rfl) trivial ?_
                refine A_pureE (boolV false) (boolV (decide (((v22.1.getD x82.toNat default).X) > o77.2.1.X))) (congrArg boolV b87) [183] [] (True) (by kernel_rfl) trivial ?_
                refine A_pure (.v (.one (.own 3 0 2 v22.1.length))) [7, 184] [] (True) (by kernel_rfl) trivial ?_
                refine A_pure (.v (.one (.val (.int .i64 x82)))) [17, 184] [] (True) (by kernel_rfl) trivial ?_
                refine A_pure (.v (.one (.rptr 3 0 2 x82.toNat 0))) [184, 185, 186] [] (0 ≤ x82 ∧ x82 < ((v22.1.length : Nat) : Int)) (by kernel_rfl) (inb_of g85) ?_
                refine A_pure (.v (.one (.rptr 3 0 2 x82.toNat 1))) [184, 187] [] (True) (by kernel_rfl) trivial ?_
                refine A_pure (.v (.one (.val (.int .i64 ((v22.1.getD x82.toNat default).Y))))) [184, 188] [3] (x82.toNat < v22.1.length) (by kernel_rfl) (toNat_lt (inb_of g85)) ?_
                refine A_pure (.v (.one (.bptr 4 0 1))) [11, 184] [] (True) (by kernel_rfl) trivial ?_
                refine A_pure (.v (.one (.val (.int .i64 o77.2.2.Y)))) [184, 190] [4] (True) (by kernel_rfl) trivial ?_
                refine A_pure (.v (.one (.val (.bool (decide (((v22.1.getD x82.toNat default).Y) < o77.2.2.Y)))))) [184, 189, 191] [] (True) (by kernel_rfl) trivial ?_
                refine A_pure (.v (.one (.val (.bool (decide (((v22.1.getD x82.toNat default).Y) < o77.2.2.Y)))))) [184, 192] [] (True) (by kernel_rfl) trivial ?_
                refine A_pureE (boolV true) (boolV (decide (((v22.1.getD x82.toNat default).Y) < o77.2.2.Y))) (congrArg boolV b88) [193] [] (True) (by kernel_rfl) trivial ?_
                refine A_skip [194] (by kernel_rfl) ?_
                refine A_skip [194] (by kernel_rfl) ?_
                refine A_skip [194] (by kernel_rfl) ?_
                refine A_skip [194] (by kernel_rfl) ?_
                refine A_skip [194] (by kernel_rfl) ?_
                refine A_skip [194] (by kernel_rfl) ?_
                refine A_skip [194] (by kernel_rfl) ?_
                refine A_skip [194] (by kernel_rfl) ?_
                refine A_pure (.v (.one (.val (.bool true)))) [194, 202] [] (True) (by kernel_rfl) trivial ?_
                exact A_end
              · exact J_mk (true) hm (by kernel_rfl) (by kernel_rfl)
            · replace hm := bif_f b88 hm
              refine R_draw 30 (rg Tryd.f8 [1, 1, 1, 1, 1, 1, 1, 1, 1, 1, 1, 0, 1, 0, 0, 1, 0, 0, 0]) (by kernel_rfl) [⟨true, .v (.one (.own 3 0 2 v22.1.length)), [], [], [7], []⟩, ⟨true, .v (.one (.val (.int .i64 x82))), [], [], [17], []⟩, ⟨true, .v (.one (.rptr 3 0 2 x82.toNat 0)), [], [], [166, 167], []⟩, ⟨true, .v (.one (.rptr 3 0 2 x82.toNat 0)), [], [], [168], []⟩, ⟨true, .v (.one (.val (.int .i64 ((v22.1.getD x82.toNat default).X)))), [], [], [169], [3]⟩, ⟨true, .v (.one (.bptr 4 0 0)), [], [], [11], []⟩, ⟨true, .v (.one (.val (.int .i64 o77.2.2.X))), [], [], [171], [4]⟩, ⟨true, .v (.one (.val (.bool (decide (((v22.1.getD x82.toNat default).X) < o77.2.2.X))))), [], [], [170, 172], []⟩, ⟨true, boolV false, [], [], [173], []⟩, ⟨true, .v (.one (.own 3 0 2 v22.1.length)), [], [], [7, 174], []⟩, ⟨true, .v (.one (.val (.int .i64 x82))), [], [], [17, 174], []⟩, ⟨true, .v (.one (.rptr 3 0 2 x82.toNat 0)), [], [], [174, 175, 176], []⟩, ⟨true, .v (.one (.rptr 3 0 2 x82.toNat 0)), [], [], [174, 177], []⟩, ⟨true, .v (.one (.val (.int .i64 ((v22.1.getD x82.toNat default).X)))), [], [], [174, 178], [3]⟩, ⟨true, .v (.one (.bptr 5 0 0)), [], [], [12, 174], []⟩, ⟨true, .v (.one (.val (.int .i64 o77.2.1.X))), [], [], [174, 180], [5]⟩, ⟨true, .v (.one (.val (.bool (decide (((v22.1.getD x82.toNat default).X) > o77.2.1.X))))), [], [], [174, 179, 181], []⟩, ⟨true, .v (.one (.val (.bool (decide (((v22.1.getD x82.toNat default).X) > o77.2.1.X))))), [], [], [174, 182], []⟩, ⟨true, boolV false, [], [], [183], []⟩, ⟨true, .v (.one (.own 3 0 2 v22.1.length)), [], [], [7, 184], []⟩, ⟨true, .v (.one (.val (.int .i64 x82))), [], [], [17, 184], []⟩, ⟨true, .v (.one (.rptr 3 0 2 x82.toNat 0)), [], [], [184, 185, 186], []⟩, ⟨true, .v (.one (.rptr 3 0 2 x82.toNat 1)), [], [], [184, 187], []⟩, ⟨true, .v (.one (.val (.int .i64 ((v22.1.getD x82.toNat default).Y)))), [], [], [184, 188], [3]⟩, ⟨true, .v (.one (.bptr 4 0 1)), [], [], [11, 184], []⟩, ⟨true, .v (.one (.val (.int .i64 o77.2.2.Y))), [], [], [184, 190], [4]⟩, ⟨true, .v (.one (.val (.bool (decide (((v22.1.getD x82.toNat default).Y) < o77.2.2.Y))))), [], [], [184, 189, 191], []⟩, ⟨true, .v (.one (.val (.bool (decide (((v22.1.getD x82.toNat default).Y) < o77.2.2.Y))))), [], [], [184, 192], []⟩, ⟨true, boolV false, [], [], [193], []⟩, ⟨true, .v (.one (.own 3 0 2 v22.1.length)), [], [], [7, 194], []⟩, ⟨true, .v (.one (.val (.int .i64 x82))), [], [], [17, 194], []⟩, ⟨true, .v (.one (.rptr 3 0 2 x82.toNat 0)), [], [], [194, 195, 196], []⟩, ⟨true, .v (.one (.rptr 3 0 2 x82.toNat 1)), [], [], [194, 197], []⟩, ⟨true, .v (.one (.val (.int .i64 ((v22.1.getD x82.toNat default).Y)))), [], [], [194, 198], [3]⟩, ⟨true, .v (.one (.bptr 5 0 1)), [], [], [12, 194], []⟩, ⟨true, .v (.one (.val (.int .i64 o77.2.1.Y))), [], [], [194, 200], [5]⟩, ⟨true, .v (.one (.val (.bool (decide (((v22.1.getD x82.toNat default).Y) > o77.2.1.Y))))), [], [], [194, 199, 201], []⟩, ⟨true, .v (.one (.val (.bool (decide (((v22.1.getD x82.toNat default).Y) > o77.2.1.Y))))), [], [], [194, 202], []⟩] [0, 0, 3, 7, 15, 0, 32, 127, 255, 511, 511, 2047, 4095, 8191, 511, 16895, 65535, 131071, 262143, 524287, 524287, 2097151, 4194303, 8388607, 524287, 17301503, 67108863, 134217727, 268435455, 536870911, 536870911, 2147483647, 4294967295, 8589934591, 536870911, 17716740095, 68719476735, 137438953471] (by kernel_rfl) (by kernel_rfl) (by kernel_rfl) (by kernel_rfl) (by kernel_rfl) (by kernel_rfl) ?_ ?_
              · refine A_pure (.v (.one (.own 3 0 2 v22.1.length))) [7] [] (True) (by kernel_rfl) trivial ?_
                refine A_pure (.v (.one (.val (.int .i64 x82)))) [17] [] (True) (by kernel_rfl) trivial ?_
                refine A_pure (.v (.one (.rptr 3 0 2 x82.toNat 0))) [166, 167] [] (0 ≤ x82 ∧ x82 < ((v22.1.length : Nat) : Int)) (by kernel_rfl) (inb_of g85) ?_
                refine A_pure (.v (.one (.rptr 3 0 2 x82.toNat 0))) [168] [] (True) (by kernel_rfl) trivial ?_
                refine A_pure (.v (.one (.val (.int .i64 ((v22.1.getD x82.toNat default).X))))) [169] [3] (x82.toNat < v22.1.length) (by kernel_rfl) (toNat_lt (inb_of g85)) ?_
                refine A_pure (.v (.one (.bptr 4 0 0))) [11] [] (True) (by kernel_rfl) trivial ?_
                refine A_pure (.v (.one (.val (.int .i64 o77.2.2.X)))) [171] [4] (True) (by kernel_rfl) trivial ?_
                refine A_pure (.v (.one (.val (.bool (decide (((v22.1.getD x82.toNat default).X) < o77.2.2.X)))))) [170, 172] [] (True) (by kernel_rfl) trivial ?_
                refine A_pureE (boolV false) (boolV (decide (((v22.1.getD x82.toNat default).X) < o77.2.2.X))) (congrArg boolV b86) [173] [] (True) (by kernel_rfl) trivial ?_
                refine A_pure (.v (.one (.own 3 0 2 v22.1.length))) [7, 174] [] (True) (by kernel_rfl) trivial ?_
                refine A_pure (.v (.one (.val (.int .i64 x82)))) [17, 174] [] (True) (by kernel_rfl) trivial ?_
                refine A_pure (.v (.one (.rptr 3 0 2 x82.toNat 0))) [174, 175, 176] [] (0 ≤ x82 ∧ x82 < ((v22.1.length : Nat) : Int)) (by kernel_rfl) (inb_of g85) ?_
                refine A_pure (.v (.one (.rptr 3 0 2 x82.toNat 0))) [174, 177] [] (True) (by kernel_rfl) trivial ?_
                refine A_pure (.v (.one (.val (.int .i64 ((v22.1.getD x82.toNat default).X))))) [174, 178] [3] (x82.toNat < v22.1.length) (by kernel_rfl) (toNat_lt (inb_of g85)) ?_
                refine A_pure (.v (.one (.bptr 5 0 0))) [12, 174] [] (True) (by kernel_rfl) trivial ?_
                refine A_pure (.v (.one (.val (.int .i64 o77.2.1.X)))) [174, 180] [5] (True) (by kernel_rfl) trivial ?_
                refine A_pure (.v (.one (.val (.bool (decide (((v22.1.getD x82.toNat default).X) > o77.2.1.X)))))) [174, 179, 181] [] (True) (by kernel_rfl) trivial ?_
                refine A_pure (.v (.one (.val (.bool (decide (((v22.1.getD x82.toNat default).X) > o77.2.1.X)))))) [174, 182] [] (True) (by kernel_rfl) trivial ?_
                refine A_pureE (boolV false) (boolV (decide (((v22.1.getD x82.toNat default).X) > o77.2.1.X))) (congrArg boolV b87) [183] [] (True) (by kernel_rfl) trivial ?_
                refine A_pure (.v (.one (.own 3 0 2 v22.1.length))) [7, 184] [] (True) (by kernel_rfl) trivial ?_
                refine A_pure (.v (.one (.val (.int .i64 x82)))) [17, 184] [] (True) (by kernel_rfl) trivial ?_
                refine A_pure (.v (.one (.rptr 3 0 2 x82.toNat 0))) [184, 185, 186] [] (0 ≤ x82 ∧ x82 < ((v22.1.length : Nat) : Int)) (by kernel_rfl) (inb_of g85) ?_
                refine A_pure (.v (.one (.rptr 3 0 2 x82.toNat 1))) [184, 187] [] (True) (by kernel_rfl) trivial ?_
                refine A_pure (.v (.one (.val (.int .i64 ((v22.1.getD x82.toNat default).Y))))) [184, 188] [3] (x82.toNat < v22.1.length) (by kernel_rfl) (toNat_lt (inb_of g85)) ?_
                refine A_pure (.v (.one (.bptr 4 0 1))) [11, 184] [] (True) (by kernel_rfl) trivial ?_
                refine A_pure (.v (.one (.val (.int .i64 o77.2.2.Y)))) [184, 190] [4] (True) (by kernel_rfl) trivial ?_
                refine A_pure (.v (.one (.val (.bool (decide (((v22.1.getD x82.toNat default).Y) < o77.2.2.Y)))))) [184, 189, 191] [] (True) (by kernel_rfl) trivial ?_
                refine A_pure (.v (.one (.val (.bool (decide (((v22.1.getD x82.toNat default).Y) < o77.2.2.Y)))))) [184, 192] [] (True) (by kernel_rfl) trivial ?_
                refine A_pureE (boolV false) (boolV (decide (((v22.1.getD x82.toNat default).Y) < o77.2.2.Y))) (congrArg boolV b88) [193] [] (True) (by kernel_rfl) trivial ?_
                refine A_pure (.v (.one (.own 3 0 2 v22.1.length))) [7, 194] [] (True) (by kernel_rfl) trivial ?_
                refine A_pure (.v (.one (.val (.int .i64 x82)))) [17, 194] [] (True) (by kernel_rfl) trivial ?_
                refine A_pure (.v (.one (.rptr 3 0 2 x82.toNat 0))) [194, 195, 196] [] (0 ≤ x82 ∧ x82 < ((v22.1.length : Nat) : Int)) (by kernel_rfl) (inb_of g85) ?_
                refine A_pure (.v (.one (.rptr 3 0 2 x82.toNat 1))) [194, 197] [] (True) (by kernel_rfl) trivial ?_
                refine A_pure (.v (.one (.val (.int .i64 ((v22.1.getD x82.toNat default).Y))))) [194, 198] [3] (x82.toNat < v22.1.length) (by kernel_rfl) (toNat_lt (inb_of g85)) ?_
                refine A_pure (.v (.one (.bptr 5 0 1))) [12, 194] [] (True) (by kernel_rfl) trivial ?_
                refine A_pure (.v (.one (.val (.int .i64 o77.2.1.Y)))) [194, 200] [5] (True) (by kernel_rfl) trivial ?_
                refine A_pure (.v (.one (.val (.bool (decide (((v22.1.getD x82.toNat default).Y) > o77.2.1.Y)))))) [194, 199, 201] [] (True) (by kernel_rfl) trivial ?_
                refine A_pure (.v (.one (.val (.bool (decide (((v22.1.getD x82.toNat default).Y) > o77.2.1.Y)))))) [194, 202] [] (True) (by kernel_rfl) trivial ?_
                exact A_end
              · exact J_mk (decide (((v22.1.getD x82.toNat default).Y) > o77.2.1.Y)) hm (by kernel_rfl) (by kernel_rfl)
    · replace hm := bif_f b84 hm
      refine R_exit 2 (by kernel_rfl) ?_
      obtain rfl := Option.some.inj hm
      exact L1_mk () (by kernel_rfl) (by kernel_rfl)

set_option maxRecDepth 100000 in
theorem law12_RingFills_L11_ok (w : World) (A : Nat → Prop) (hg : Globs globs w A) (v22 : (List Point) × Int) (v98 : (List Point) × Int) (v101 : (List Point) × Int) : ∀ (n : Nat) (x111 : Int) (res : Bool ⊕ Unit), law12_RingFills_L11 v22 v98 v101 n x111 = some res → HL ({ P := Tryd.prog, w0 := w, nt := 261, A := A, globs := globs, mixed := mixed, glob := hg } : Ctx) (nd Tryd.f8 [1, 1, 1, 1, 1, 1, 1, 1, 1, 1, 1, 1, 1, 1, 1, 0, 1, 0, 0]) (loopQ 4 (fun o => law12_RingFills_L11_T) (fun v st => RetQ Tryd.prog Tryd.f8 (law12_RingFills_x v) (law12_RingFills_o v) .ret st) res) n (law12_RingFills_L11_S v22 v98 v101 x111) := by
  intro n
  induction n with
  | zero =>
    intro x111 res hm
    cases hm
  | succ n ih =>
    intro x111 res hm
    refine HL_succ ?_
    refine R_seq (nd Tryd.f8 [1, 1, 1, 1, 1, 1, 1, 1, 1, 1, 1, 1, 1, 1, 1, 0, 1, 0, 0, 0]) (nd Tryd.f8 [1, 1, 1, 1, 1, 1, 1, 1, 1, 1, 1, 1, 1, 1, 1, 0, 1, 0, 0, 1]) (by kernel_rfl) ?_
    refine R_seq (nd Tryd.f8 [1, 1, 1, 1, 1, 1, 1, 1, 1, 1, 1, 1, 1, 1, 1, 0, 1, 0, 0, 0, 0]) (nd Tryd.f8 [1, 1, 1, 1, 1, 1, 1, 1, 1, 1, 1, 1, 1, 1, 1, 0, 1, 0, 0, 0, 1]) (by kernel_rfl) ?_
    refine R_region 37 (rg Tryd.f8 [1, 1, 1, 1, 1, 1, 1, 1, 1, 1, 1, 1, 1, 1, 1, 0, 1, 0, 0, 0, 0]) (by kernel_rfl) ?_
    have k112 : opsOk 261 (rg Tryd.f8 [1, 1, 1, 1, 1, 1, 1, 1, 1, 1, 1, 1, 1, 1, 1, 0, 1, 0, 0, 0, 0]) = true := by kernel_rfl
    refine P_op k112 (.v (.one (.val (.int .i64 x111)))) (by kernel_rfl) ?_
    refine P_op k112 (.v (.one (.own 3 0 2 v22.1.length))) (by kernel_rfl) ?_
    refine P_op k112 (.v (.one (.val (.int .i64 ((v22.1.length : Nat) : Int))))) (by kernel_rfl) ?_
    refine P_op k112 (.v (.one (.val (.bool (decide (x111 < ((v22.1.length : Nat) : Int))))))) (by kernel_rfl) ?_
    refine HOps_end (by kernel_rfl) ?_
    refine R_cond (.tmp 237) (nd Tryd.f8 [1, 1, 1, 1, 1, 1, 1, 1, 1, 1, 1, 1, 1, 1, 1, 0, 1, 0, 0, 0, 1, 0]) (nd Tryd.f8 [1, 1, 1, 1, 1, 1, 1, 1, 1, 1, 1, 1, 1, 1, 1, 0, 1, 0, 0, 0, 1, 1]) (by kernel_rfl) (decide (x111 < ((v22.1.length : Nat) : Int))) (by kernel_rfl) (fun b113 => ?_) (fun b113 => ?_)
    · replace hm := bif_t b113 hm
      refine R_skip (by kernel_rfl) ?_
      refine R_seq (nd Tryd.f8 [1, 1, 1, 1, 1, 1, 1, 1, 1, 1, 1, 1, 1, 1, 1, 0, 1, 0, 0, 1, 0]) (nd Tryd.f8 [1, 1, 1, 1, 1, 1, 1, 1, 1, 1, 1, 1, 1, 1, 1, 0, 1, 0, 0, 1, 1]) (by kernel_rfl) ?_
      refine R_block 5 (nd Tryd.f8 [1, 1, 1, 1, 1, 1, 1, 1, 1, 1, 1, 1, 1, 1, 1, 0, 1, 0, 0, 1, 0, 0]) (by kernel_rfl) ?_
      refine R_join (ι := Bool) (nd Tryd.f8 [1, 1, 1, 1, 1, 1, 1, 1, 1, 1, 1, 1, 1, 1, 1, 0, 1, 0, 0, 1, 0, 0, 0]) (nd Tryd.f8 [1, 1, 1, 1, 1, 1, 1, 1, 1, 1, 1, 1, 1, 1, 1, 0, 1, 0, 0, 1, 0, 0, 1]) (by kernel_rfl) (fun p => law12_RingFills_k12_S v22 v98 v101 x111 p) (fun p => law12_RingFills_k12 x111 (law12_RingFills_L11 v22 v98 v101 n) p = some res) ?_ ?_
      · rintro x118 hm
        show H _ (law12_RingFills_k12_S v22 v98 v101 x111 x118) (nd Tryd.f8 [1, 1, 1, 1, 1, 1, 1, 1, 1, 1, 1, 1, 1, 1, 1, 0, 1, 0, 0, 1, 0, 0, 1]) _
        refine R_cond (.tmp 259) (nd Tryd.f8 [1, 1, 1, 1, 1, 1, 1, 1, 1, 1, 1, 1, 1, 1, 1, 0, 1, 0, 0, 1, 0, 0, 1, 0]) (nd Tryd.f8 [1, 1, 1, 1, 1, 1, 1, 1, 1, 1, 1, 1, 1, 1, 1, 0, 1, 0, 0, 1, 0, 0, 1, 1]) (by kernel_rfl) x118 (by kernel_rfl) (fun b119 => ?_) (fun b119 => ?_)
        · replace hm := bif_t b119 hm
          refine R_seq (nd Tryd.f8 [1, 1, 1, 1, 1, 1, 1, 1, 1, 1, 1, 1, 1, 1, 1, 0, 1, 0, 0, 1, 0, 0, 1, 0, 0]) (nd Tryd.f8 [1, 1, 1, 1, 1, 1, 1, 1, 1, 1, 1, 1, 1, 1, 1, 0, 1, 0, 0, 1, 0, 0, 1, 0, 1]) (by kernel_rfl) ?_
          refine R_region 40 (rg Tryd.f8 [1, 1, 1, 1, 1, 1, 1, 1, 1, 1, 1, 1, 1, 1, 1, 0, 1, 0, 0, 1, 0, 0, 1, 0, 0]) (by kernel_rfl) ?_
          have k120 : opsOk 261 (rg Tryd.f8 [1, 1, 1, 1, 1, 1, 1, 1, 1, 1, 1, 1, 1, 1, 1, 0, 1, 0, 0, 1, 0, 0, 1, 0, 0]) = true := by kernel_rfl
          refine P_op k120 (.v (.one (.val (.bool false)))) (by kernel_rfl) ?_
          refine HOps_end (by kernel_rfl) ?_
          obtain rfl := Option.some.inj hm
          refine R_ret (by kernel_rfl) ?_
          refine L1_ret false ?_
          exact ret_mk (by kernel_rfl) (by kernel_rfl)
        · replace hm := bif_f b119 hm
          refine R_skip (by kernel_rfl) ?_
          refine R_region 38 (rg Tryd.f8 [1, 1, 1, 1, 1, 1, 1, 1, 1, 1, 1, 1, 1, 1, 1, 0, 1, 0, 0, 1, 1]) (by kernel_rfl) ?_
          have k121 : opsOk 261 (rg Tryd.f8 [1, 1, 1, 1, 1, 1, 1, 1, 1, 1, 1, 1, 1, 1, 1, 0, 1, 0, 0, 1, 1]) = true := by kernel_rfl
          refine P_op k121 (.v (.one (.val (.int .i64 x111)))) (by kernel_rfl) ?_
          refine P_op k121 (.v (.one (.val (.int .i64 (w64 (x111 + 1)))))) (by kernel_rfl) ?_
          refine P_op k121 (.v (.one (.val (.int .i64 (w64 (x111 + 1)))))) (by kernel_rfl) ?_
          refine HOps_end (by kernel_rfl) ?_
          exact HL_enter (law12_RingFills_L11_S v22 v98 v101 (w64 (x111 + 1))) (by kernel_rfl) (by kernel_rfl) (ih (w64 (x111 + 1)) _ hm)
      · obtain ⟨g114, hm⟩ := bif_n hm
        obtain ⟨g115, hm⟩ := bif_n hm
        rcases Bool.eq_false_or_eq_true (!(((v98.1.getD x111.toNat default).X == (v22.1.getD x111.toNat default).X) && (((v98.1.getD x111.toNat default).Y == (v22.1.getD x111.toNat default).Y) && true))) with b116 | b116
        · replace hm := bif_t b116 hm
          refine R_draw 39 (rg Tryd.f8 [1, 1, 1, 1, 1, 1, 1, 1, 1, 1, 1, 1, 1, 1, 1, 0, 1, 0, 0, 1, 0, 0, 0]) (by kernel_rfl) [⟨true, .v (.one (.own 9 0 2 v98.1.length)), [], [], [18], []⟩, ⟨true, .v (.one (.val (.int .i64 x111))), [], [], [22], []⟩, ⟨true, .v (.one (.rptr 9 0 2 x111.toNat 0)), [], [], [240, 241], []⟩, ⟨true, .v (.agg [.val (.int .i64 ((v98.1.getD x111.toNat default).X)), .val (.int .i64 ((v98.1.getD x111.toNat default).Y))]), [], [], [242], [9]⟩, ⟨true, .v (.one (.own 3 0 2 v22.1.length)), [], [], [7], []⟩, ⟨true, .v (.one (.val (.int .i64 x111))), [], [], [22], []⟩, ⟨true, .v (.one (.rptr 3 0 2 x111.toNat 0)), [], [], [244, 245], []⟩, ⟨true, .v (.agg [.val (.int .i64 ((v22.1.getD x111.toNat default).X)), .val (.int .i64 ((v22.1.getD x111.toNat default).Y))]), [], [], [246], [3]⟩, ⟨true, .v (.one (.val (.bool (!(((v98.1.getD x111.toNat default).X == (v22.1.getD x111.toNat default).X) && (((v98.1.getD x111.toNat default).Y == (v22.1.getD x111.toNat default).Y) && true)))))), [], [], [243, 247], []⟩, ⟨true, boolV true, [], [], [248], []⟩, ⟨false, .undef, [], [], [249], []⟩, ⟨false, .undef, [], [], [249], []⟩, ⟨false, .undef, [], [], [249], []⟩, ⟨false, .undef, [], [], [249], []⟩, ⟨false, .undef, [], [], [249], []⟩, ⟨false, .undef, [], [], [249], []⟩, ⟨false, .undef, [], [], [249], []⟩, ⟨false, .undef, [], [], [249], []⟩, ⟨false, .undef, [], [], [249], []⟩, ⟨true, .v (.one (.val (.bool true))), [], [], [249, 258], []⟩] [0, 0, 3, 7, 0, 0, 48, 112, 255, 511, 1023, 1023, 4095, 8191, 1023, 1023, 50175, 115711, 262143, 524287] (by kernel_rfl) (by kernel_rfl) (by kernel_rfl) (by kernel_rfl) (by kernel_rfl) (by kernel_rfl) ?_ ?_
          · refine A_pure (.v (.one (.own 9 0 2 v98.1.length))) [18] [] (True) (by kernel_rfl) trivial ?_
            refine A_pure (.v (.one (.val (.int .i64 x111)))) [22] [] (True) (by kernel_rfl) trivial ?_
            refine A_pure (.v (.one (.rptr 9 0 2 x111.toNat 0))) [240, 241] [] (0 ≤ x111 ∧ x111 < ((v98.1.length : Nat) : Int)) (by kernel_rfl) (inb_of g114) ?_
            refine A_pure (.v (.agg [.val (.int .i64 ((v98.1.getD x111.toNat default).X)), .val (.int .i64 ((v98.1.getD x111.toNat default).Y))])) [242] [9] (x111.toNat < v98.1.length) (by kernel_rfl) (toNat_lt (inb_of g114)) ?_
            refine A_pure (.v (.one (.own 3 0 2 v22.1.length))) [7] [] (True) (by kernel_rfl) trivial ?_
            refine A_pure (.v (.one (.val (.int .i64 x111)))) [22] [] (True) (by kernel_rfl) trivial ?_
            refine A_pure (.v (.one (.rptr 3 0 2 x111.toNat 0))) [244, 245] [] (0 ≤ x111 ∧ x111 < ((v22.1.length : Nat) : Int)) (by kernel_rfl) (inb_of g115) ?_
            refine A_pure (.v (.agg [.val (.int .i64 ((v22.1.getD x111.toNat default).X)), .val (.int .i64 ((v22.1.getD x111.toNat default).Y))])) [246] [3] (x111.toNat < v22.1.length) (by kernel_rfl) (toNat_lt (inb_of g115)) ?_
            refine A_pure (.v (.one (.val (.bool (!(((v98.1.getD x111.toNat default).X == (v22.1.getD x111.toNat default).X) && (((v98.1.getD x111.toNat default).Y == (v22.1.getD x111.toNat default).Y) && true))))))) [243, 247] [] (True) (by kernel_rfl) trivial ?_
            refine A_pureE (boolV true) (boolV (!(((v98.1.getD x111.toNat default).X == (v22.1.getD x111.toNat default).X) && (((v98.1.getD x111.toNat default).Y == (v22.1.getD x111.toNat default).Y) && true)))) (congrArg boolV b116) [248] [] (True) (by kernel_rfl) trivial ?_
            refine A_skip [249] (by kernel_rfl) ?_
            refine A_skip [249] (by kernel_rfl) ?_
            refine A_skip [249] (by kernel_rfl) ?_
            refine A_skip [249] (by kernel_rfl) ?_
            refine A_skip [249] (by kernel_rfl) ?_
            refine A_skip [249] (by kernel_rfl) ?_
            refine A_skip [249] (by kernel_rfl) ?_
            refine A_skip [249] (by kernel_rfl) ?_
            refine A_skip [249] (by kernel_rfl) ?_
            refine A_pure (.v (.one (.val (.bool true)))) [249, 258] [] (True) (by kernel_rfl) trivial ?_
            exact A_end
          · exact J_mk (true) hm (by kernel_rfl) (by kernel_rfl)
        · replace hm := bif_f b116 hm
          obtain ⟨g117, hm⟩ := bif_n hm
          refine R_draw 39 (rg Tryd.f8 [1, 1, 1, 1, 1, 1, 1, 1, 1, 1, 1, 1, 1, 1, 1, 0, 1, 0, 0, 1, 0, 0, 0]) (by kernel_rfl) [⟨true, .v (.one (.own 9 0 2 v98.1.length)), [], [], [18], []⟩, ⟨true, .v (.one (.val (.int .i64 x111))), [], [], [22], []⟩, ⟨true, .v (.one (.rptr 9 0 2 x111.toNat 0)), [], [], [240, 241], []⟩, ⟨true, .v (.agg [.val (.int .i64 ((v98.1.getD x111.toNat default).X)), .val (.int .i64 ((v98.1.getD x111.toNat default).Y))]), [], [], [242], [9]⟩, ⟨true, .v (.one (.own 3 0 2 v22.1.length)), [], [], [7], []⟩, ⟨true, .v (.one (.val (.int .i64 x111))), [], [], [22], []⟩, ⟨true, .v (.one (.rptr 3 0 2 x111.toNat 0)), [], [], [244, 245], []⟩, ⟨true, .v (.agg [.val (.int .i64 ((v22.1.getD x111.toNat default).X)), .val (.int .i64 ((v22.1.getD x111.toNat default).Y))]), [], [], [246], [3]⟩, ⟨true, .v (.one (.val (.bool (!(((v98.1.getD x111.toNat default).X == (v22.1.getD x111.toNat default).X) && (((v98.1.getD x111.toNat default).Y == (v22.1.getD x111.toNat default).Y) && true)))))), [], [], [243, 247], []⟩, ⟨true, boolV false, [], [], [248], []⟩, ⟨true, .v (.one (.own 10 0 2 v101.1.length)), [], [], [20, 249], []⟩, ⟨true, .v (.one (.val (.int .i64 x111))), [], [], [22, 249], []⟩, ⟨true, .v (.one (.rptr 10 0 2 x111.toNat 0)), [], [], [249, 250, 251], []⟩, ⟨true, .v (.agg [.val (.int .i64 ((v101.1.getD x111.toNat default).X)), .val (.int .i64 ((v101.1.getD x111.toNat default).Y))]), [], [], [249, 252], [10]⟩, ⟨true, .v (.one (.own 3 0 2 v22.1.length)), [], [], [7, 249], []⟩, ⟨true, .v (.one (.val (.int .i64 x111))), [], [], [22, 249], []⟩, ⟨true, .v (.one (.rptr 3 0 2 x111.toNat 0)), [], [], [249, 254, 255], []⟩, ⟨true, .v (.agg [.val (.int .i64 ((v22.1.getD x111.toNat default).X)), .val (.int .i64 ((v22.1.getD x111.toNat default).Y))]), [], [], [249, 256], [3]⟩, ⟨true, .v (.one (.val (.bool (!(((v101.1.getD x111.toNat default).X == (v22.1.getD x111.toNat default).X) && (((v101.1.getD x111.toNat default).Y == (v22.1.getD x111.toNat default).Y) && true)))))), [], [], [249, 253, 257], []⟩, ⟨true, .v (.one (.val (.bool (!(((v101.1.getD x111.toNat default).X == (v22.1.getD x111.toNat default).X) && (((v101.1.getD x111.toNat default).Y == (v22.1.getD x111.toNat default).Y) && true)))))), [], [], [249, 258], []⟩] [0, 0, 3, 7, 0, 0, 48, 112, 255, 511, 1023, 1023, 4095, 8191, 1023, 1023, 50175, 115711, 262143, 524287] (by kernel_rfl) (by kernel_rfl) (by kernel_rfl) (by kernel_rfl) (by kernel_rfl) (by kernel_rfl) ?_ ?_
          · refine A_pure (.v (.one (.own 9 0 2 v98.1.length))) [18] [] (True) (by kernel_rfl) trivial ?_
            refine A_pure (.v (.one (.val (.int .i64 x111)))) [22] [] (True) (by kernel_rfl) trivial ?_
            refine A_pure (.v (.one (.rptr 9 0 2 x111.toNat 0))) [240, 241] [] (0 ≤ x111 ∧ x111 < ((v98.1.length : Nat) : Int)) (by kernel_rfl) (inb_of g114) ?_
            refine A_pure (.v (.agg [.val (.int .i64 ((v98.1.getD x111.toNat default).X)), .val (.int .i64 ((v98.1.getD x111.toNat default).Y))])) [242] [9] (x111.toNat < v98.1.length) (by kernel_rfl) (toNat_lt (inb_of g114)) ?_
            refine A_pure (.v (.one (.own 3 0 2 v22.1.length))) [7] [] (True) (by kernel_rfl) trivial ?_
            refine A_pure (.v (.one (.val (.int .i64 x111)))) [22] [] (True) (by kernel_rfl) trivial ?_
            refine A_pure (.v (.one (.rptr 3 0 2 x111.toNat 0))) [244, 245] [] (0 ≤ x111 ∧ x111 < ((v22.1.length : Nat) : Int)) (by kernel_rfl) (inb_of g115) ?_
            refine A_pure (.v (.agg [.val (.int .i64 ((v22.1.getD x111.toNat default).X)), .val (.int .i64 ((v22.1.getD x111.toNat default).Y))])) [246] [3] (x111.toNat < v22.1.length) (by kernel_rfl) (toNat_lt (inb_of g115)) ?_
            refine A_pure (.v (.one (.val (.bool (!(((v98.1.getD x111.toNat default).X == (v22.1.getD x111.toNat default).X) && (((v98.1.getD x111.toNat default).Y == (v22.1.getD x111.toNat default).Y) && true))))))) [243, 247] [] (True) (by kernel_rfl) trivial ?_
            refine A_pureE (boolV false) (boolV (!(((v98.1.getD x111.toNat default).X == (v22.1.getD x111.toNat default).X) && (((v98.1.getD x111.toNat default).Y == (v22.1.getD x111.toNat default).Y) && true)))) (congrArg boolV b116) [248] [] (True) (by kernel_rfl) trivial ?_
            refine A_pure (.v (.one (.own 10 0 2 v101.1.length))) [20, 249] [] (True) (by kernel_rfl) trivial ?_
            refine A_pure (.v (.one (.val (.int .i64 x111)))) [22, 249] [] (True) (by kernel_rfl) trivial ?_
            refine A_pure (.v (.one (.rptr 10 0 2 x111.toNat 0))) [249, 250, 251] [] (0 ≤ x111 ∧ x111 < ((v101.1.length : Nat) : Int)) (by kernel_rfl) (inb_of g117) ?_
            refine A_pure (.v (.agg [.val (.int .i64 ((v101.1.getD x111.toNat default).X)), .val (.int .i64 ((v101.1.getD x111.toNat default).Y))])) [249, 252] [10] (x111.toNat < v101.1.length) (by kernel_rfl) (toNat_lt (inb_of g117)) ?_
            refine A_pure (.v (.one (.own 3 0 2 v22.1.length))) [7, 249] [] (True) (by kernel_rfl) trivial ?_
            refine A_pure (.v (.one (.val (.int .i64 x111)))) [22, 249] [] (True) (by kernel_rfl) trivial ?_
            refine A_pure (.v (.one (.rptr 3 0 2 x111.toNat 0))) [249, 254, 255] [] (0 ≤ x111 ∧ x111 < ((v22.1.length : Nat) : Int)) (by kernel_rfl) (inb_of g115) ?_
            refine A_pure (.v (.agg [.val (.int .i64 ((v22.1.getD x111.toNat default).X)), .val (.int .i64 ((v22.1.getD x111.toNat default).Y))])) [249, 256] [3] (x111.toNat < v22.1.length) (by kernel_rfl) (toNat_lt (inb_of g115)) ?_
            refine A_pure (.v (.one (.val (.bool (!(((v101.1.getD x111.toNat default).X == (v22.1.getD x111.toNat default).X) && (((v101.1.getD x111.toNat default).Y == (v22.1.getD x111.toNat default).Y) && true))))))) [249, 253, 257] [] (True) (by kernel_rfl) trivial ?_
            refine A_pure (.v (.one (.val (.bool (!(((v101.1.getD x111.toNat default).X == (v22.1.getD x111.toNat default).X) && (((v101.1.getD x111.toNat default).Y == (v22.1.getD x111.toNat default).Y) && true))))))) [249, 258] [] (True) (by kernel_rfl) trivial ?_
            exact A_end
          · exact J_mk (!(((v101.1.getD x111.toNat default).X == (v22.1.getD x111.toNat default).X) && (((v101.1.getD x111.toNat default).Y == (v22.1.getD x111.toNat default).Y) && true))) hm (by kernel_rfl) (by kernel_rfl)
    · replace hm := bif_f b113 hm
      refine R_exit 4 (by kernel_rfl) ?_
      obtain rfl := Option.some.inj hm
      exact L1_mk () (by kernel_rfl) (by kernel_rfl)

set_option maxRecDepth 100000 in
theorem law12_RingFills_ok (a1 : Ring) (a2 : Int) (r : Bool) (hm : law12_RingFills a1 a2 = some r) : Ct Tryd.prog globs 8 [.agg [.val (.int .i64 a1.Z), tl e_Reading default a1.Read], .one (.val (.int .i64 a2))] (law12_RingFills_x r) (law12_RingFills_o r) := by
  unfold law12_RingFills at hm
  refine Ct_of_H (fn := Tryd.f8) (c := nd Tryd.f8 []) mixed (by kernel_rfl) (by kernel_rfl) (by kernel_rfl) fun w A hg => ?_
  show H ({ P := Tryd.prog, w0 := w, nt := 261, A := A, globs := globs, mixed := mixed, glob := hg } : Ctx) _ _ _
  refine R_seq (nd Tryd.f8 [0]) (nd Tryd.f8 [1]) (by kernel_rfl) ?_
  refine R_region 0 (rg Tryd.f8 [0]) (by kernel_rfl) ?_
  have k3 : opsOk 261 (rg Tryd.f8 [0]) = true := by kernel_rfl
  refine P_step k3 ([(1, 0)]) ([(1, (0, .box 24 [.val (.int .i64 a1.Z), tl e_Reading default a1.Read]))]) (.v (.one (.bptr 1 0 0))) (by kernel_rfl) (Step_box 24 (.tmp 0) 1 0 (.agg [.val (.int .i64 a1.Z), tl e_Reading default a1.Read]) (by kernel_rfl) (by kernel_rfl) (by kernel_rfl)) ?_
  refine P_op k3 (.v (.one (.val (.bool false)))) (by kernel_rfl) ?_
  refine HOps_end (by kernel_rfl) ?_
  refine R_seq (nd Tryd.f8 [1, 0]) (nd Tryd.f8 [1, 1]) (by kernel_rfl) ?_
  refine R_join (ι := Bool) (nd Tryd.f8 [1, 0, 0]) (nd Tryd.f8 [1, 0, 1]) (by kernel_rfl) (fun p => law12_RingFills_k1_S a1 a2 p) (fun p => law12_RingFills_k1 a1 a2 p = some r) ?_ ?_
  · rintro x8 hm
    show H _ (law12_RingFills_k1_S a1 a2 x8) (nd Tryd.f8 [1, 0, 1]) _
    refine R_cond (.tmp 31) (nd Tryd.f8 [1, 0, 1, 0]) (nd Tryd.f8 [1, 0, 1, 1]) (by kernel_rfl) x8 (by kernel_rfl) (fun b9 => ?_) (fun b9 => ?_)
    · replace hm := bif_t b9 hm
      refine R_seq (nd Tryd.f8 [1, 0, 1, 0, 0]) (nd Tryd.f8 [1, 0, 1, 0, 1]) (by kernel_rfl) ?_
      refine R_region 2 (rg Tryd.f8 [1, 0, 1, 0, 0]) (by kernel_rfl) ?_
      have k10 : opsOk 261 (rg Tryd.f8 [1, 0, 1, 0, 0]) = true := by kernel_rfl
      refine P_op k10 (.v (.agg [.val (.int .i64 a1.Z), tl e_Reading default a1.Read])) (by kernel_rfl) ?_
      refine P_op k10 (.v (.one (.val (.int .i64 a2)))) (by kernel_rfl) ?_
      obtain ⟨v11, h12, hm⟩ := bind_s hm
      refine P_step k10 (obNv 2 (ring_Repair_o v11)) (obSh 2 (ring_Repair_o v11)) ((ring_Repair_x v11).sh 2) (by kernel_rfl) (Step_call (x := ring_Repair_x v11) (ob := ring_Repair_o v11) (f := 21) (args := [(.tmp 33), (.tmp 34)]) (fn := Tryd.f21) (ys := [.agg [.val (.int .i64 a1.Z), tl e_Reading default a1.Read], .one (.val (.int .i64 a2))]) 2 (by kernel_rfl) (by kernel_rfl) (by kernel_rfl) (by kernel_rfl) (by kernel_rfl) (by kernel_rfl) rfl (ring_Repair_ok a1 a2 v11 h12) (by kernel_rfl) (by kernel_rfl)) ?_
      refine P_op k10 (.tup [.one (.own 2 0 2 v11.1.length), .one (.val (.int .i64 v11.2))]) (by kernel_rfl) ?_
      refine P_op k10 (.v (.one (.own 2 0 2 v11.1.length))) (by kernel_rfl) ?_
      refine P_op k10 (.v (.one (.val (.int .i64 v11.2)))) (by kernel_rfl) ?_
      refine P_op k10 (.v (.one (.own 2 0 2 v11.1.length))) (by kernel_rfl) ?_
      refine P_op k10 (.v (.one (.val (.int .i64 v11.2)))) (by kernel_rfl) ?_
      refine HOps_end (by kernel_rfl) ?_
      refine R_join (ι := Bool) (nd Tryd.f8 [1, 0, 1, 0, 1, 0]) (nd Tryd.f8 [1, 0, 1, 0, 1, 1]) (by kernel_rfl) (fun p => law12_RingFills_k2_S p) (fun p => law12_RingFills_k2 p = some r) ?_ ?_
      · rintro x20 hm
        show H _ (law12_RingFills_k2_S x20) (nd Tryd.f8 [1, 0, 1, 0, 1, 1]) _
        obtain rfl := Option.some.inj hm
        refine R_ret (by kernel_rfl) ?_
        exact ret_mk (by kernel_rfl) (by kernel_rfl)
      · refine R_region 3 (rg Tryd.f8 [1, 0, 1, 0, 1, 0]) (by kernel_rfl) ?_
        have k13 : opsOk 261 (rg Tryd.f8 [1, 0, 1, 0, 1, 0]) = true := by kernel_rfl
        refine P_op k13 (.v (.one (.val (.int .i64 v11.2)))) (by kernel_rfl) ?_
        refine P_op k13 (.v (.one (.val (.bool (v11.2 != 0))))) (by kernel_rfl) ?_
        refine P_op k13 (.v (.one (.val (.bool (v11.2 != 0))))) (by kernel_rfl) ?_
        refine HOps_bool 40 (v11.2 != 0) (by kernel_rfl) (fun b14 => ?_) (fun b14 => ?_)
        · replace hm := bif_t b14 hm
          refine P_op k13 (.v (.one (.val (.int .i64 v11.2)))) (by kernel_rfl) ?_
          refine P_op k13 (.v (.agg [.val (.int .i64 a1.Z), tl e_Reading default a1.Read])) (by kernel_rfl) ?_
          obtain ⟨v15, h16, hm⟩ := bind_s hm
          refine P_step k13 (obNv 3 (ring_Check_o v15)) (obSh 3 (ring_Check_o v15)) ((ring_Check_x v15).sh 3) (by kernel_rfl) (Step_call (x := ring_Check_x v15) (ob := ring_Check_o v15) (f := 14) (args := [(.tmp 42)]) (fn := Tryd.f14) (ys := [.agg [.val (.int .i64 a1.Z), tl e_Reading default a1.Read]]) 3 (by kernel_rfl) (by kernel_rfl) (by kernel_rfl) (by kernel_rfl) (by kernel_rfl) (by kernel_rfl) rfl (ring_Check_ok a1 v15 h16) (by kernel_rfl) (by kernel_rfl)) ?_
          refine P_op k13 (.v (.one (.val (.bool (v11.2 == v15))))) (by kernel_rfl) ?_
          refine P_op k13 (.v (.one (.val (.bool (v11.2 == v15))))) (by kernel_rfl) ?_
          refine P_op k13 (.v (.one (.val (.bool (v11.2 == v15))))) (by kernel_rfl) ?_
          refine HOps_bool 46 (v11.2 == v15) (by kernel_rfl) (fun b17 => ?_) (fun b17 => ?_)
          · replace hm := bif_t b17 hm
            obtain ⟨v18, h19, hm⟩ := bind_s hm
            refine P_step k13 (obNv 3 (law12_awake_o v18)) (obSh 3 (law12_awake_o v18)) ((law12_awake_x v18).sh 3) (by kernel_rfl) (Step_call (x := law12_awake_x v18) (ob := law12_awake_o v18) (f := 11) (args := []) (fn := Tryd.f11) (ys := []) 3 (by kernel_rfl) (by kernel_rfl) (by kernel_rfl) (by kernel_rfl) (by kernel_rfl) (by kernel_rfl) rfl (law12_awake_ok v18 h19) (by kernel_rfl) (by kernel_rfl)) ?_
            refine P_op k13 (.v (.one (.val (.bool v18)))) (by kernel_rfl) ?_
            refine P_op k13 (.v (.one (.val (.bool v18)))) (by kernel_rfl) ?_
            refine HOps_end (by kernel_rfl) ?_
            exact J_mk (v18) hm (by kernel_rfl) (by kernel_rfl)
          · replace hm := bif_f b17 hm
            refine P_skip k13 (by kernel_rfl) ?_
            refine P_op k13 (.v (.one (.val (.bool false)))) (by kernel_rfl) ?_
            refine P_op k13 (.v (.one (.val (.bool false)))) (by kernel_rfl) ?_
            refine HOps_end (by kernel_rfl) ?_
            exact J_mk (false) hm (by kernel_rfl) (by kernel_rfl)
        · replace hm := bif_f b14 hm
          refine P_skip k13 (by kernel_rfl) ?_
          refine P_skip k13 (by kernel_rfl) ?_
          refine P_skip k13 (by kernel_rfl) ?_
          refine P_skip k13 (by kernel_rfl) ?_
          refine P_op k13 (.v (.one (.val (.bool false)))) (by kernel_rfl) ?_
          refine P_op k13 (.v (.one (.val (.bool false)))) (by kernel_rfl) ?_
          refine P_skip k13 (by kernel_rfl) ?_
          refine P_op k13 (.v (.one (.val (.bool false)))) (by kernel_rfl) ?_
          refine P_op k13 (.v (.one (.val (.bool false)))) (by kernel_rfl) ?_
          refine HOps_end (by kernel_rfl) ?_
          exact J_mk (false) hm (by kernel_rfl) (by kernel_rfl)
    · replace hm := bif_f b9 hm
      refine R_skip (by kernel_rfl) ?_
      refine R_seq (nd Tryd.f8 [1, 1, 0]) (nd Tryd.f8 [1, 1, 1]) (by kernel_rfl) ?_
      refine R_region 4 (rg Tryd.f8 [1, 1, 0]) (by kernel_rfl) ?_
      have k21 : opsOk 261 (rg Tryd.f8 [1, 1, 0]) = true := by kernel_rfl
      refine P_op k21 (.v (.agg [.val (.int .i64 a1.Z), tl e_Reading default a1.Read])) (by kernel_rfl) ?_
      refine P_op k21 (.v (.one (.val (.int .i64 a2)))) (by kernel_rfl) ?_
      obtain ⟨v22, h23, hm⟩ := bind_s hm
      refine P_step k21 (obNv 3 (ring_Repair_o v22)) (obSh 3 (ring_Repair_o v22)) ((ring_Repair_x v22).sh 3) (by kernel_rfl) (Step_call (x := ring_Repair_x v22) (ob := ring_Repair_o v22) (f := 21) (args := [(.tmp 50), (.tmp 51)]) (fn := Tryd.f21) (ys := [.agg [.val (.int .i64 a1.Z), tl e_Reading default a1.Read], .one (.val (.int .i64 a2))]) 3 (by kernel_rfl) (by kernel_rfl) (by kernel_rfl) (by kernel_rfl) (by kernel_rfl) (by kernel_rfl) rfl (ring_Repair_ok a1 a2 v22 h23) (by kernel_rfl) (by kernel_rfl)) ?_
      refine P_op k21 (.tup [.one (.own 3 0 2 v22.1.length), .one (.val (.int .i64 v22.2))]) (by kernel_rfl) ?_
      refine P_op k21 (.v (.one (.own 3 0 2 v22.1.length))) (by kernel_rfl) ?_
      refine P_op k21 (.v (.one (.val (.int .i64 v22.2)))) (by kernel_rfl) ?_
      refine P_op k21 (.v (.one (.own 3 0 2 v22.1.length))) (by kernel_rfl) ?_
      refine P_op k21 (.v (.one (.val (.int .i64 v22.2)))) (by kernel_rfl) ?_
      refine HOps_end (by kernel_rfl) ?_
      refine R_seq (nd Tryd.f8 [1, 1, 1, 0]) (nd Tryd.f8 [1, 1, 1, 1]) (by kernel_rfl) ?_
      refine R_region 5 (rg Tryd.f8 [1, 1, 1, 0]) (by kernel_rfl) ?_
      have k24 : opsOk 261 (rg Tryd.f8 [1, 1, 1, 0]) = true := by kernel_rfl
      refine P_op k24 (.v (.agg [.val (.int .i64 a1.Z), tl e_Reading default a1.Read])) (by kernel_rfl) ?_
      obtain ⟨v25, h26, hm⟩ := bind_s hm
      refine P_step k24 (obNv 4 (ring_Gaps_o v25)) (obSh 4 (ring_Gaps_o v25)) ((ring_Gaps_x v25).sh 4) (by kernel_rfl) (Step_call (x := ring_Gaps_x v25) (ob := ring_Gaps_o v25) (f := 12) (args := [(.tmp 56)]) (fn := Tryd.f12) (ys := [.agg [.val (.int .i64 a1.Z), tl e_Reading default a1.Read]]) 4 (by kernel_rfl) (by kernel_rfl) (by kernel_rfl) (by kernel_rfl) (by kernel_rfl) (by kernel_rfl) rfl (ring_Gaps_ok a1 v25 h26) (by kernel_rfl) (by kernel_rfl)) ?_
      refine P_op k24 (.tup [.one (.val (.int .i64 v25.1)), .one (.val (.int .i64 v25.2))]) (by kernel_rfl) ?_
      refine P_op k24 (.v (.one (.val (.int .i64 v25.1)))) (by kernel_rfl) ?_
      refine P_op k24 (.v (.one (.val (.int .i64 v25.2)))) (by kernel_rfl) ?_
      refine P_op k24 (.v (.one (.val (.int .i64 v25.1)))) (by kernel_rfl) ?_
      refine P_op k24 (.v (.one (.val (.int .i64 v25.2)))) (by kernel_rfl) ?_
      refine HOps_end (by kernel_rfl) ?_
      refine R_seq (nd Tryd.f8 [1, 1, 1, 1, 0]) (nd Tryd.f8 [1, 1, 1, 1, 1]) (by kernel_rfl) ?_
      refine R_join (ι := Bool) (nd Tryd.f8 [1, 1, 1, 1, 0, 0]) (nd Tryd.f8 [1, 1, 1, 1, 0, 1]) (by kernel_rfl) (fun p => law12_RingFills_k3_S a1 v22 p) (fun p => law12_RingFills_k3 a1 v22 p = some r) ?_ ?_
      · rintro x30 hm
        show H _ (law12_RingFills_k3_S a1 v22 x30) (nd Tryd.f8 [1, 1, 1, 1, 0, 1]) _
        refine R_cond (.tmp 77) (nd Tryd.f8 [1, 1, 1, 1, 0, 1, 0]) (nd Tryd.f8 [1, 1, 1, 1, 0, 1, 1]) (by kernel_rfl) x30 (by kernel_rfl) (fun b31 => ?_) (fun b31 => ?_)
        · replace hm := bif_t b31 hm
          refine R_seq (nd Tryd.f8 [1, 1, 1, 1, 0, 1, 0, 0]) (nd Tryd.f8 [1, 1, 1, 1, 0, 1, 0, 1]) (by kernel_rfl) ?_
          refine R_region 7 (rg Tryd.f8 [1, 1, 1, 1, 0, 1, 0, 0]) (by kernel_rfl) ?_
          have k32 : opsOk 261 (rg Tryd.f8 [1, 1, 1, 1, 0, 1, 0, 0]) = true := by kernel_rfl
          refine P_op k32 (.v (.one (.val (.bool false)))) (by kernel_rfl) ?_
          refine HOps_end (by kernel_rfl) ?_
          obtain rfl := Option.some.inj hm
          refine R_ret (by kernel_rfl) ?_
          exact ret_mk (by kernel_rfl) (by kernel_rfl)
        · replace hm := bif_f b31 hm
          refine R_skip (by kernel_rfl) ?_
          refine R_seq (nd Tryd.f8 [1, 1, 1, 1, 1, 0]) (nd Tryd.f8 [1, 1, 1, 1, 1, 1]) (by kernel_rfl) ?_
          refine R_seq (nd Tryd.f8 [1, 1, 1, 1, 1, 0, 0]) (nd Tryd.f8 [1, 1, 1, 1, 1, 0, 1]) (by kernel_rfl) ?_
          refine R_region 8 (rg Tryd.f8 [1, 1, 1, 1, 1, 0, 0]) (by kernel_rfl) ?_
          have k33 : opsOk 261 (rg Tryd.f8 [1, 1, 1, 1, 1, 0, 0]) = true := by kernel_rfl
          refine P_op k33 (.v (.one (.val (.int .i64 v22.2)))) (by kernel_rfl) ?_
          refine P_op k33 (.v (.one (.val (.bool (v22.2 != 0))))) (by kernel_rfl) ?_
          refine HOps_end (by kernel_rfl) ?_
          refine R_cond (.tmp 79) (nd Tryd.f8 [1, 1, 1, 1, 1, 0, 1, 0]) (nd Tryd.f8 [1, 1, 1, 1, 1, 0, 1, 1]) (by kernel_rfl) (v22.2 != 0) (by kernel_rfl) (fun b34 => ?_) (fun b34 => ?_)
          · replace hm := bif_t b34 hm
            refine R_join (ι := Bool) (nd Tryd.f8 [1, 1, 1, 1, 1, 0, 1, 0, 0]) (nd Tryd.f8 [1, 1, 1, 1, 1, 0, 1, 0, 1]) (by kernel_rfl) (fun p => law12_RingFills_k4_S p) (fun p => law12_RingFills_k4 p = some r) ?_ ?_
            · rintro x40 hm
              show H _ (law12_RingFills_k4_S x40) (nd Tryd.f8 [1, 1, 1, 1, 1, 0, 1, 0, 1]) _
              obtain rfl := Option.some.inj hm
              refine R_ret (by kernel_rfl) ?_
              exact ret_mk (by kernel_rfl) (by kernel_rfl)
            · refine R_region 9 (rg Tryd.f8 [1, 1, 1, 1, 1, 0, 1, 0, 0]) (by kernel_rfl) ?_
              have k35 : opsOk 261 (rg Tryd.f8 [1, 1, 1, 1, 1, 0, 1, 0, 0]) = true := by kernel_rfl
              refine P_op k35 (.v (.one (.val (.int .i64 v22.2)))) (by kernel_rfl) ?_
              refine P_op k35 (.v (.one (.val (.bool (v22.2 == 30))))) (by kernel_rfl) ?_
              refine P_op k35 (.v (.one (.val (.bool (v22.2 == 30))))) (by kernel_rfl) ?_
              refine HOps_bool 82 (v22.2 == 30) (by kernel_rfl) (fun b36 => ?_) (fun b36 => ?_)
              · replace hm := bif_t b36 hm
                refine P_op k35 (.v (.one (.own 3 0 2 v22.1.length))) (by kernel_rfl) ?_
                refine P_op k35 (.v (.one (.val (.int .i64 ((v22.1.length : Nat) : Int))))) (by kernel_rfl) ?_
                refine P_op k35 (.v (.one (.val (.bool (((v22.1.length : Nat) : Int) == 0))))) (by kernel_rfl) ?_
                refine P_op k35 (.v (.one (.val (.bool (((v22.1.length : Nat) : Int) == 0))))) (by kernel_rfl) ?_
                refine P_op k35 (.v (.one (.val (.bool (((v22.1.length : Nat) : Int) == 0))))) (by kernel_rfl) ?_
                refine HOps_bool 87 (((v22.1.length : Nat) : Int) == 0) (by kernel_rfl) (fun b37 => ?_) (fun b37 => ?_)
                · replace hm := bif_t b37 hm
                  obtain ⟨v38, h39, hm⟩ := bind_s hm
                  refine P_step k35 (obNv 4 (law12_awake_o v38)) (obSh 4 (law12_awake_o v38)) ((law12_awake_x v38).sh 4) (by kernel_rfl) (Step_call (x := law12_awake_x v38) (ob := law12_awake_o v38) (f := 11) (args := []) (fn := Tryd.f11) (ys := []) 4 (by kernel_rfl) (by kernel_rfl) (by kernel_rfl) (by kernel_rfl) (by kernel_rfl) (by kernel_rfl) rfl (law12_awake_ok v38 h39) (by kernel_rfl) (by kernel_rfl)) ?_
                  refine P_op k35 (.v (.one (.val (.bool v38)))) (by kernel_rfl) ?_
                  refine P_op k35 (.v (.one (.val (.bool v38)))) (by kernel_rfl) ?_
                  refine HOps_end (by kernel_rfl) ?_
                  exact J_mk (v38) hm (by kernel_rfl) (by kernel_rfl)
                · replace hm := bif_f b37 hm
                  refine P_skip k35 (by kernel_rfl) ?_
                  refine P_op k35 (.v (.one (.val (.bool false)))) (by kernel_rfl) ?_
                  refine P_op k35 (.v (.one (.val (.bool false)))) (by kernel_rfl) ?_
                  refine HOps_end (by kernel_rfl) ?_
                  exact J_mk (false) hm (by kernel_rfl) (by kernel_rfl)
              · replace hm := bif_f b36 hm
                refine P_skip k35 (by kernel_rfl) ?_
                refine P_skip k35 (by kernel_rfl) ?_
                refine P_skip k35 (by kernel_rfl) ?_
                refine P_op k35 (.v (.one (.val (.bool false)))) (by kernel_rfl) ?_
                refine P_op k35 (.v (.one (.val (.bool false)))) (by kernel_rfl) ?_
                refine P_skip k35 (by kernel_rfl) ?_
                refine P_op k35 (.v (.one (.val (.bool false)))) (by kernel_rfl) ?_
                refine P_op k35 (.v (.one (.val (.bool false)))) (by kernel_rfl) ?_
                refine HOps_end (by kernel_rfl) ?_
                exact J_mk (false) hm (by kernel_rfl) (by kernel_rfl)
          · replace hm := bif_f b34 hm
            refine R_skip (by kernel_rfl) ?_
            refine R_seq (nd Tryd.f8 [1, 1, 1, 1, 1, 1, 0]) (nd Tryd.f8 [1, 1, 1, 1, 1, 1, 1]) (by kernel_rfl) ?_
            refine R_seq (nd Tryd.f8 [1, 1, 1, 1, 1, 1, 0, 0]) (nd Tryd.f8 [1, 1, 1, 1, 1, 1, 0, 1]) (by kernel_rfl) ?_
            refine R_region 10 (rg Tryd.f8 [1, 1, 1, 1, 1, 1, 0, 0]) (by kernel_rfl) ?_
            have k41 : opsOk 261 (rg Tryd.f8 [1, 1, 1, 1, 1, 1, 0, 0]) = true := by kernel_rfl
            refine P_op k41 (.v (.one (.own 3 0 2 v22.1.length))) (by kernel_rfl) ?_
            refine P_op k41 (.v (.one (.val (.int .i64 ((v22.1.length : Nat) : Int))))) (by kernel_rfl) ?_
            refine P_op k41 (.v (.one (.bptr 1 0 1))) (by kernel_rfl) ?_
            refine P_op k41 (.v (.one (tl e_Reading default a1.Read))) (by kernel_rfl) ?_
            refine P_op k41 (.v (.one (.val (.int .i64 ((a1.Read.length : Nat) : Int))))) (by kernel_rfl) ?_
            refine P_op k41 (.v (.one (.val (.bool (((v22.1.length : Nat) : Int) != ((a1.Read.length : Nat) : Int)))))) (by kernel_rfl) ?_
            refine HOps_end (by kernel_rfl) ?_
            refine R_cond (.tmp 95) (nd Tryd.f8 [1, 1, 1, 1, 1, 1, 0, 1, 0]) (nd Tryd.f8 [1, 1, 1, 1, 1, 1, 0, 1, 1]) (by kernel_rfl) (((v22.1.length : Nat) : Int) != ((a1.Read.length : Nat) : Int)) (by kernel_rfl) (fun b42 => ?_) (fun b42 => ?_)
            · replace hm := bif_t b42 hm
              refine R_seq (nd Tryd.f8 [1, 1, 1, 1, 1, 1, 0, 1, 0, 0]) (nd Tryd.f8 [1, 1, 1, 1, 1, 1, 0, 1, 0, 1]) (by kernel_rfl) ?_
              refine R_region 11 (rg Tryd.f8 [1, 1, 1, 1, 1, 1, 0, 1, 0, 0]) (by kernel_rfl) ?_
              have k43 : opsOk 261 (rg Tryd.f8 [1, 1, 1, 1, 1, 1, 0, 1, 0, 0]) = true := by kernel_rfl
              refine P_op k43 (.v (.one (.val (.bool false)))) (by kernel_rfl) ?_
              refine HOps_end (by kernel_rfl) ?_
              obtain rfl := Option.some.inj hm
              refine R_ret (by kernel_rfl) ?_
              exact ret_mk (by kernel_rfl) (by kernel_rfl)
            · replace hm := bif_f b42 hm
              refine R_skip (by kernel_rfl) ?_
              refine R_seq (nd Tryd.f8 [1, 1, 1, 1, 1, 1, 1, 0]) (nd Tryd.f8 [1, 1, 1, 1, 1, 1, 1, 1]) (by kernel_rfl) ?_
              refine R_region 12 (rg Tryd.f8 [1, 1, 1, 1, 1, 1, 1, 0]) (by kernel_rfl) ?_
              have k44 : opsOk 261 (rg Tryd.f8 [1, 1, 1, 1, 1, 1, 1, 0]) = true := by kernel_rfl
              refine P_step k44 ([(4, 0)]) ([(4, (0, .box 38 [.val (.int .i64 0), .val (.int .i64 0)]))]) (.v (.one (.bptr 4 0 0))) (by kernel_rfl) (Step_alloc 38 4 0 [.val (.int .i64 0), .val (.int .i64 0)] (by kernel_rfl) (by kernel_rfl) (by kernel_rfl)) ?_
              refine P_step k44 ([(5, 0)]) ([(5, (0, .box 38 [.val (.int .i64 0), .val (.int .i64 0)]))]) (.v (.one (.bptr 5 0 0))) (by kernel_rfl) (Step_alloc 38 5 0 [.val (.int .i64 0), .val (.int .i64 0)] (by kernel_rfl) (by kernel_rfl) (by kernel_rfl)) ?_
              refine HOps_end (by kernel_rfl) ?_
              refine R_seq (nd Tryd.f8 [1, 1, 1, 1, 1, 1, 1, 1, 0]) (nd Tryd.f8 [1, 1, 1, 1, 1, 1, 1, 1, 1]) (by kernel_rfl) ?_
              refine R_region 13 (rg Tryd.f8 [1, 1, 1, 1, 1, 1, 1, 1, 0]) (by kernel_rfl) ?_
              have k45 : opsOk 261 (rg Tryd.f8 [1, 1, 1, 1, 1, 1, 1, 1, 0]) = true := by kernel_rfl
              refine P_op k45 (.v (.one (.val (.bool false)))) (by kernel_rfl) ?_
              refine HOps_end (by kernel_rfl) ?_
              refine R_seq (nd Tryd.f8 [1, 1, 1, 1, 1, 1, 1, 1, 1, 0]) (nd Tryd.f8 [1, 1, 1, 1, 1, 1, 1, 1, 1, 1]) (by kernel_rfl) ?_
              refine R_region 14 (rg Tryd.f8 [1, 1, 1, 1, 1, 1, 1, 1, 1, 0]) (by kernel_rfl) ?_
              have k46 : opsOk 261 (rg Tryd.f8 [1, 1, 1, 1, 1, 1, 1, 1, 1, 0]) = true := by kernel_rfl
              refine P_op k46 (.v (.one (.bptr 1 0 0))) (by kernel_rfl) ?_
              refine P_op k46 (.v (.one (.val (.int .i64 a1.Z)))) (by kernel_rfl) ?_
              refine P_op k46 (.v (.agg [.val (.int .i64 a1.Z), .emp])) (by kernel_rfl) ?_
              refine P_step k46 ([(6, 0)]) ([(6, (0, .box 24 [.val (.int .i64 0), .emp]))]) (.v (.one (.bptr 6 0 0))) (by kernel_rfl) (Step_alloc 24 6 0 [.val (.int .i64 0), .emp] (by kernel_rfl) (by kernel_rfl) (by kernel_rfl)) ?_
              refine P_write k46 ([(6, (0, .box 24 [.val (.int .i64 a1.Z), .emp]))]) (.undef) (by kernel_rfl) (Step_store_box 24 (.tmp 14) (.tmp 98) 6 0 0 24 [.val (.int .i64 0), .emp] (.agg [.val (.int .i64 a1.Z), .emp]) [.val (.int .i64 a1.Z), .emp] (by kernel_rfl) (by kernel_rfl) (by kernel_rfl) (by kernel_rfl) (by kernel_rfl) (by kernel_rfl) (by kernel_rfl) (by kernel_rfl)) ?_
              refine HOps_end (by kernel_rfl) ?_
              refine R_seq (nd Tryd.f8 [1, 1, 1, 1, 1, 1, 1, 1, 1, 1, 0]) (nd Tryd.f8 [1, 1, 1, 1, 1, 1, 1, 1, 1, 1, 1]) (by kernel_rfl) ?_
              refine R_seq (nd Tryd.f8 [1, 1, 1, 1, 1, 1, 1, 1, 1, 1, 0, 0]) (nd Tryd.f8 [1, 1, 1, 1, 1, 1, 1, 1, 1, 1, 0, 1]) (by kernel_rfl) ?_
              refine R_region 15 (rg Tryd.f8 [1, 1, 1, 1, 1, 1, 1, 1, 1, 1, 0, 0]) (by kernel_rfl) ?_
              have k47 : opsOk 261 (rg Tryd.f8 [1, 1, 1, 1, 1, 1, 1, 1, 1, 1, 0, 0]) = true := by kernel_rfl
              refine P_op k47 (.v (.one (.val (.int .i64 0)))) (by kernel_rfl) ?_
              refine HOps_ownB 6 0 24 1 1001 44 3 [.val (.int .i64 a1.Z), .emp] (rowf e_Reading default ([] : List Reading)) (by kernel_rfl) ?_
              refine HOps_end (by kernel_rfl) ?_
              obtain ⟨u79, h78, hm⟩ := bind_s hm
              refine R_loop1 (nd Tryd.f8 [1, 1, 1, 1, 1, 1, 1, 1, 1, 1, 0, 1, 0, 0]) 0 (by kernel_rfl) FUEL (fun o => law12_RingFills_L5_T a1 v22 o.1 o.2.1 o.2.2) (fun v st => RetQ Tryd.prog Tryd.f8 (law12_RingFills_x v) (law12_RingFills_o v) .ret st) u79 (HL_enter (law12_RingFills_L5_S a1 v22 false 0 ([] : List Reading) 0 (Point.mk 0 0) (Point.mk 0 0)) (by kernel_rfl) (by kernel_rfl) (law12_RingFills_L5_ok w A hg a1 v22 FUEL false 0 ([] : List Reading) 0 (Point.mk 0 0) (Point.mk 0 0) u79 rfl h78)) ?_ ?_
              · rintro v80 rfl st hr
                obtain rfl := Option.some.inj hm
                exact hr
              · rintro o77 rfl
                replace hm : _ = some r := hm
                refine R_seq (nd Tryd.f8 [1, 1, 1, 1, 1, 1, 1, 1, 1, 1, 1, 0]) (nd Tryd.f8 [1, 1, 1, 1, 1, 1, 1, 1, 1, 1, 1, 1]) (by kernel_rfl) ?_
                refine R_seq (nd Tryd.f8 [1, 1, 1, 1, 1, 1, 1, 1, 1, 1, 1, 0, 0]) (nd Tryd.f8 [1, 1, 1, 1, 1, 1, 1, 1, 1, 1, 1, 0, 1]) (by kernel_rfl) ?_
                refine R_region 27 (rg Tryd.f8 [1, 1, 1, 1, 1, 1, 1, 1, 1, 1, 1, 0, 0]) (by kernel_rfl) ?_
                have k81 : opsOk 261 (rg Tryd.f8 [1, 1, 1, 1, 1, 1, 1, 1, 1, 1, 1, 0, 0]) = true := by kernel_rfl
                refine P_op k81 (.v (.one (.val (.int .i64 0)))) (by kernel_rfl) ?_
                refine HOps_end (by kernel_rfl) ?_
                obtain ⟨u95, h94, hm⟩ := bind_s hm
                refine R_loop1 (nd Tryd.f8 [1, 1, 1, 1, 1, 1, 1, 1, 1, 1, 1, 0, 1, 0, 0]) 2 (by kernel_rfl) FUEL (fun o => law12_RingFills_L8_T a1 v22 o77) (fun v st => RetQ Tryd.prog Tryd.f8 (law12_RingFills_x v) (law12_RingFills_o v) .ret st) u95 (HL_enter (law12_RingFills_L8_S a1 v22 o77 0) (by kernel_rfl) (by kernel_rfl) (law12_RingFills_L8_ok w A hg a1 v22 o77 FUEL 0 u95 h94)) ?_ ?_
                · rintro v96 rfl st hr
                  obtain rfl := Option.some.inj hm
                  exact hr
                · rintro o93 rfl
                  replace hm : _ = some r := hm
                  refine R_seq (nd Tryd.f8 [1, 1, 1, 1, 1, 1, 1, 1, 1, 1, 1, 1, 0]) (nd Tryd.f8 [1, 1, 1, 1, 1, 1, 1, 1, 1, 1, 1, 1, 1]) (by kernel_rfl) ?_
                  refine R_region 32 (rg Tryd.f8 [1, 1, 1, 1, 1, 1, 1, 1, 1, 1, 1, 1, 0]) (by kernel_rfl) ?_
                  have k97 : opsOk 261 (rg Tryd.f8 [1, 1, 1, 1, 1, 1, 1, 1, 1, 1, 1, 1, 0]) = true := by kernel_rfl
                  refine P_op k97 (.v (.agg [.val (.int .i64 a1.Z), .own 1001 0 3 o77.1.length])) (by kernel_rfl) ?_
                  obtain ⟨v98, h99, hm⟩ := bind_s hm
                  refine P_step k97 (obNv 9 (ring_Repair_o v98)) (obSh 9 (ring_Repair_o v98)) ((ring_Repair_x v98).sh 9) (by kernel_rfl) (Step_call_own (x := ring_Repair_x v98) (ob := ring_Repair_o v98) (f := 21) (args := [(.tmp 205), (.const (.int .i64 0))]) (fn := Tryd.f21) (ys := [.agg [.val (.int .i64 a1.Z), .own 1001 0 3 o77.1.length], .one (.val (.int .i64 0))]) (zs := [.agg [.val (.int .i64 a1.Z), .lst o77.1.length (rowf e_Reading default o77.1)], .one (.val (.int .i64 0))]) (p := ((True ∧ (o77.1.length ≤ o77.1.length ∧ True)) ∧ (True ∧ True))) 9 (by kernel_rfl) (by kernel_rfl) (by kernel_rfl) (by kernel_rfl) (by kernel_rfl) (by kernel_rfl) ⟨⟨trivial, ⟨(Nat.le_refl _), trivial⟩⟩, ⟨trivial, trivial⟩⟩ rfl (ring_Repair_ok (Ring.mk a1.Z o77.1) 0 v98 h99) (by kernel_rfl) (by kernel_rfl) (by kernel_rfl) (ring_Repair_f v98)) ?_
                  refine P_op k97 (.tup [.one (.own 9 0 2 v98.1.length), .one (.val (.int .i64 v98.2))]) (by kernel_rfl) ?_
                  refine P_op k97 (.v (.one (.own 9 0 2 v98.1.length))) (by kernel_rfl) ?_
                  refine P_op k97 (.v (.one (.val (.int .i64 v98.2)))) (by kernel_rfl) ?_
                  refine P_op k97 (.v (.one (.own 9 0 2 v98.1.length))) (by kernel_rfl) ?_
                  refine P_op k97 (.v (.one (.val (.int .i64 v98.2)))) (by kernel_rfl) ?_
                  refine HOps_end (by kernel_rfl) ?_
                  refine R_seq (nd Tryd.f8 [1, 1, 1, 1, 1, 1, 1, 1, 1, 1, 1, 1, 1, 0]) (nd Tryd.f8 [1, 1, 1, 1, 1, 1, 1, 1, 1, 1, 1, 1, 1, 1]) (by kernel_rfl) ?_
                  refine R_region 33 (rg Tryd.f8 [1, 1, 1, 1, 1, 1, 1, 1, 1, 1, 1, 1, 1, 0]) (by kernel_rfl) ?_
                  have k100 : opsOk 261 (rg Tryd.f8 [1, 1, 1, 1, 1, 1, 1, 1, 1, 1, 1, 1, 1, 0]) = true := by kernel_rfl
                  refine P_op k100 (.v (.agg [.val (.int .i64 a1.Z), tl e_Reading default a1.Read])) (by kernel_rfl) ?_
                  obtain ⟨v101, h102, hm⟩ := bind_s hm
                  refine P_step k100 (obNv 10 (ring_Repair_o v101)) (obSh 10 (ring_Repair_o v101)) ((ring_Repair_x v101).sh 10) (by kernel_rfl) (Step_call (x := ring_Repair_x v101) (ob := ring_Repair_o v101) (f := 21) (args := [(.tmp 210), (.const (.int .i64 32))]) (fn := Tryd.f21) (ys := [.agg [.val (.int .i64 a1.Z), tl e_Reading default a1.Read], .one (.val (.int .i64 32))]) 10 (by kernel_rfl) (by kernel_rfl) (by kernel_rfl) (by kernel_rfl) (by kernel_rfl) (by kernel_rfl) rfl (ring_Repair_ok a1 32 v101 h102) (by kernel_rfl) (by kernel_rfl)) ?_
                  refine P_op k100 (.tup [.one (.own 10 0 2 v101.1.length), .one (.val (.int .i64 v101.2))]) (by kernel_rfl) ?_
                  refine P_op k100 (.v (.one (.own 10 0 2 v101.1.length))) (by kernel_rfl) ?_
                  refine P_op k100 (.v (.one (.val (.int .i64 v101.2)))) (by kernel_rfl) ?_
                  refine P_op k100 (.v (.one (.own 10 0 2 v101.1.length))) (by kernel_rfl) ?_
                  refine P_op k100 (.v (.one (.val (.int .i64 v101.2)))) (by kernel_rfl) ?_
                  refine HOps_end (by kernel_rfl) ?_
                  refine R_seq (nd Tryd.f8 [1, 1, 1, 1, 1, 1, 1, 1, 1, 1, 1, 1, 1, 1, 0]) (nd Tryd.f8 [1, 1, 1, 1, 1, 1, 1, 1, 1, 1, 1, 1, 1, 1, 1]) (by kernel_rfl) ?_
                  refine R_join (ι := Bool) (nd Tryd.f8 [1, 1, 1, 1, 1, 1, 1, 1, 1, 1, 1, 1, 1, 1, 0, 0]) (nd Tryd.f8 [1, 1, 1, 1, 1, 1, 1, 1, 1, 1, 1, 1, 1, 1, 0, 1]) (by kernel_rfl) (fun p => law12_RingFills_k10_S v22 v98 v101 p) (fun p => law12_RingFills_k10 v22 v98 v101 p = some r) ?_ ?_
                  · rintro x107 hm
                    show H _ (law12_RingFills_k10_S v22 v98 v101 x107) (nd Tryd.f8 [1, 1, 1, 1, 1, 1, 1, 1, 1, 1, 1, 1, 1, 1, 0, 1]) _
                    refine R_cond (.tmp 233) (nd Tryd.f8 [1, 1, 1, 1, 1, 1, 1, 1, 1, 1, 1, 1, 1, 1, 0, 1, 0]) (nd Tryd.f8 [1, 1, 1, 1, 1, 1, 1, 1, 1, 1, 1, 1, 1, 1, 0, 1, 1]) (by kernel_rfl) x107 (by kernel_rfl) (fun b108 => ?_) (fun b108 => ?_)
                    · replace hm := bif_t b108 hm
                      refine R_seq (nd Tryd.f8 [1, 1, 1, 1, 1, 1, 1, 1, 1, 1, 1, 1, 1, 1, 0, 1, 0, 0]) (nd Tryd.f8 [1, 1, 1, 1, 1, 1, 1, 1, 1, 1, 1, 1, 1, 1, 0, 1, 0, 1]) (by kernel_rfl) ?_
                      refine R_region 35 (rg Tryd.f8 [1, 1, 1, 1, 1, 1, 1, 1, 1, 1, 1, 1, 1, 1, 0, 1, 0, 0]) (by kernel_rfl) ?_
                      have k109 : opsOk 261 (rg Tryd.f8 [1, 1, 1, 1, 1, 1, 1, 1, 1, 1, 1, 1, 1, 1, 0, 1, 0, 0]) = true := by kernel_rfl
                      refine P_op k109 (.v (.one (.val (.bool false)))) (by kernel_rfl) ?_
                      refine HOps_end (by kernel_rfl) ?_
                      obtain rfl := Option.some.inj hm
                      refine R_ret (by kernel_rfl) ?_
                      exact ret_mk (by kernel_rfl) (by kernel_rfl)
                    · replace hm := bif_f b108 hm
                      refine R_skip (by kernel_rfl) ?_
                      refine R_seq (nd Tryd.f8 [1, 1, 1, 1, 1, 1, 1, 1, 1, 1, 1, 1, 1, 1, 1, 0]) (nd Tryd.f8 [1, 1, 1, 1, 1, 1, 1, 1, 1, 1, 1, 1, 1, 1, 1, 1]) (by kernel_rfl) ?_
                      refine R_seq (nd Tryd.f8 [1, 1, 1, 1, 1, 1, 1, 1, 1, 1, 1, 1, 1, 1, 1, 0, 0]) (nd Tryd.f8 [1, 1, 1, 1, 1, 1, 1, 1, 1, 1, 1, 1, 1, 1, 1, 0, 1]) (by kernel_rfl) ?_
                      refine R_region 36 (rg Tryd.f8 [1, 1, 1, 1, 1, 1, 1, 1, 1, 1, 1, 1, 1, 1, 1, 0, 0]) (by kernel_rfl) ?_
                      have k110 : opsOk 261 (rg Tryd.f8 [1, 1, 1, 1, 1, 1, 1, 1, 1, 1, 1, 1, 1, 1, 1, 0, 0]) = true := by kernel_rfl
                      refine P_op k110 (.v (.one (.val (.int .i64 0)))) (by kernel_rfl) ?_
                      refine HOps_end (by kernel_rfl) ?_
                      obtain ⟨u124, h123, hm⟩ := bind_s hm
                      refine R_loop1 (nd Tryd.f8 [1, 1, 1, 1, 1, 1, 1, 1, 1, 1, 1, 1, 1, 1, 1, 0, 1, 0, 0]) 4 (by kernel_rfl) FUEL (fun o => law12_RingFills_L11_T) (fun v st => RetQ Tryd.prog Tryd.f8 (law12_RingFills_x v) (law12_RingFills_o v) .ret st) u124 (HL_enter (law12_RingFills_L11_S v22 v98 v101 0) (by kernel_rfl) (by kernel_rfl) (law12_RingFills_L11_ok w A hg v22 v98 v101 FUEL 0 u124 h123)) ?_ ?_
                      · rintro v125 rfl st hr
                        obtain rfl := Option.some.inj hm
                        exact hr
                      · rintro o122 rfl
                        replace hm : _ = some r := hm
                        refine R_seq (nd Tryd.f8 [1, 1, 1, 1, 1, 1, 1, 1, 1, 1, 1, 1, 1, 1, 1, 1, 0]) (nd Tryd.f8 [1, 1, 1, 1, 1, 1, 1, 1, 1, 1, 1, 1, 1, 1, 1, 1, 1]) (by kernel_rfl) ?_
                        refine R_region 41 (rg Tryd.f8 [1, 1, 1, 1, 1, 1, 1, 1, 1, 1, 1, 1, 1, 1, 1, 1, 0]) (by kernel_rfl) ?_
                        have k126 : opsOk 261 (rg Tryd.f8 [1, 1, 1, 1, 1, 1, 1, 1, 1, 1, 1, 1, 1, 1, 1, 1, 0]) = true := by kernel_rfl
                        obtain ⟨v127, h128, hm⟩ := bind_s hm
                        refine P_step k126 (obNv 11 (law12_awake_o v127)) (obSh 11 (law12_awake_o v127)) ((law12_awake_x v127).sh 11) (by kernel_rfl) (Step_call (x := law12_awake_x v127) (ob := law12_awake_o v127) (f := 11) (args := []) (fn := Tryd.f11) (ys := []) 11 (by kernel_rfl) (by kernel_rfl) (by kernel_rfl) (by kernel_rfl) (by kernel_rfl) (by kernel_rfl) rfl (law12_awake_ok v127 h128) (by kernel_rfl) (by kernel_rfl)) ?_
                        refine P_op k126 (.v (.one (.val (.bool v127)))) (by kernel_rfl) ?_
                        refine HOps_end (by kernel_rfl) ?_
                        obtain rfl := Option.some.inj hm
                        refine R_ret (by kernel_rfl) ?_
                        exact ret_mk (by kernel_rfl) (by kernel_rfl)
                  · refine R_region 34 (rg Tryd.f8 [1, 1, 1, 1, 1, 1, 1, 1, 1, 1, 1, 1, 1, 1, 0, 0]) (by kernel_rfl) ?_
                    have k103 : opsOk 261 (rg Tryd.f8 [1, 1, 1, 1, 1, 1, 1, 1, 1, 1, 1, 1, 1, 1, 0, 0]) = true := by kernel_rfl
                    refine P_op k103 (.v (.one (.val (.int .i64 v98.2)))) (by kernel_rfl) ?_
                    refine P_op k103 (.v (.one (.val (.bool (v98.2 != 0))))) (by kernel_rfl) ?_
                    refine P_op k103 (.v (.one (.val (.bool (v98.2 != 0))))) (by kernel_rfl) ?_
                    refine HOps_bool 216 (v98.2 != 0) (by kernel_rfl) (fun b104 => ?_) (fun b104 => ?_)
                    · replace hm := bif_t b104 hm
                      refine P_skip k103 (by kernel_rfl) ?_
                      refine P_skip k103 (by kernel_rfl) ?_
                      refine P_op k103 (.v (.one (.val (.bool true)))) (by kernel_rfl) ?_
                      refine P_op k103 (.v (.one (.val (.bool true)))) (by kernel_rfl) ?_
                      refine P_skip k103 (by kernel_rfl) ?_
                      refine P_skip k103 (by kernel_rfl) ?_
                      refine P_skip k103 (by kernel_rfl) ?_
                      refine P_skip k103 (by kernel_rfl) ?_
                      refine P_skip k103 (by kernel_rfl) ?_
                      refine P_op k103 (.v (.one (.val (.bool true)))) (by kernel_rfl) ?_
                      refine P_op k103 (.v (.one (.val (.bool true)))) (by kernel_rfl) ?_
                      refine P_skip k103 (by kernel_rfl) ?_
                      refine P_skip k103 (by kernel_rfl) ?_
                      refine P_skip k103 (by kernel_rfl) ?_
                      refine P_skip k103 (by kernel_rfl) ?_
                      refine P_skip k103 (by kernel_rfl) ?_
                      refine P_op k103 (.v (.one (.val (.bool true)))) (by kernel_rfl) ?_
                      refine HOps_end (by kernel_rfl) ?_
                      exact J_mk (true) hm (by kernel_rfl) (by kernel_rfl)
                    · replace hm := bif_f b104 hm
                      refine P_op k103 (.v (.one (.val (.int .i64 v101.2)))) (by kernel_rfl) ?_
                      refine P_op k103 (.v (.one (.val (.bool (v101.2 != 0))))) (by kernel_rfl) ?_
                      refine P_op k103 (.v (.one (.val (.bool (v101.2 != 0))))) (by kernel_rfl) ?_
                      refine P_op k103 (.v (.one (.val (.bool (v101.2 != 0))))) (by kernel_rfl) ?_
                      refine HOps_bool 220 (v101.2 != 0) (by kernel_rfl) (fun b105 => ?_) (fun b105 => ?_)
                      · replace hm := bif_t b105 hm
                        refine P_skip k103 (by kernel_rfl) ?_
                        refine P_skip k103 (by kernel_rfl) ?_
                        refine P_skip k103 (by kernel_rfl) ?_
                        refine P_skip k103 (by kernel_rfl) ?_
                        refine P_skip k103 (by kernel_rfl) ?_
                        refine P_op k103 (.v (.one (.val (.bool true)))) (by kernel_rfl) ?_
                        refine P_op k103 (.v (.one (.val (.bool true)))) (by kernel_rfl) ?_
                        refine P_skip k103 (by kernel_rfl) ?_
                        refine P_skip k103 (by kernel_rfl) ?_
                        refine P_skip k103 (by kernel_rfl) ?_
                        refine P_skip k103 (by kernel_rfl) ?_
                        refine P_skip k103 (by kernel_rfl) ?_
                        refine P_op k103 (.v (.one (.val (.bool true)))) (by kernel_rfl) ?_
                        refine HOps_end (by kernel_rfl) ?_
                        exact J_mk (true) hm (by kernel_rfl) (by kernel_rfl)
                      · replace hm := bif_f b105 hm
                        refine P_op k103 (.v (.one (.own 9 0 2 v98.1.length))) (by kernel_rfl) ?_
                        refine P_op k103 (.v (.one (.val (.int .i64 ((v98.1.length : Nat) : Int))))) (by kernel_rfl) ?_
                        refine P_op k103 (.v (.one (.own 3 0 2 v22.1.length))) (by kernel_rfl) ?_
                        refine P_op k103 (.v (.one (.val (.int .i64 ((v22.1.length : Nat) : Int))))) (by kernel_rfl) ?_
                        refine P_op k103 (.v (.one (.val (.bool (((v98.1.length : Nat) : Int) != ((v22.1.length : Nat) : Int)))))) (by kernel_rfl) ?_
                        refine P_op k103 (.v (.one (.val (.bool (((v98.1.length : Nat) : Int) != ((v22.1.length : Nat) : Int)))))) (by kernel_rfl) ?_
                        refine P_op k103 (.v (.one (.val (.bool (((v98.1.length : Nat) : Int) != ((v22.1.length : Nat) : Int)))))) (by kernel_rfl) ?_
                        refine HOps_bool 227 (((v98.1.length : Nat) : Int) != ((v22.1.length : Nat) : Int)) (by kernel_rfl) (fun b106 => ?_) (fun b106 => ?_)
                        · replace hm := bif_t b106 hm
                          refine P_skip k103 (by kernel_rfl) ?_
                          refine P_skip k103 (by kernel_rfl) ?_
                          refine P_skip k103 (by kernel_rfl) ?_
                          refine P_skip k103 (by kernel_rfl) ?_
                          refine P_skip k103 (by kernel_rfl) ?_
                          refine P_op k103 (.v (.one (.val (.bool true)))) (by kernel_rfl) ?_
                          refine HOps_end (by kernel_rfl) ?_
                          exact J_mk (true) hm (by kernel_rfl) (by kernel_rfl)
                        · replace hm := bif_f b106 hm
                          refine P_op k103 (.v (.one (.own 10 0 2 v101.1.length))) (by kernel_rfl) ?_
                          refine P_op k103 (.v (.one (.val (.int .i64 ((v101.1.length : Nat) : Int))))) (by kernel_rfl) ?_
                          refine P_op k103 (.v (.one (.own 3 0 2 v22.1.length))) (by kernel_rfl) ?_
                          refine P_op k103 (.v (.one (.val (.int .i64 ((v22.1.length : Nat) : Int))))) (by kernel_rfl) ?_
                          refine P_op k103 (.v (.one (.val (.bool (((v101.1.length : Nat) : Int) != ((v22.1.length : Nat) : Int)))))) (by kernel_rfl) ?_
                          refine P_op k103 (.v (.one (.val (.bool (((v101.1.length : Nat) : Int) != ((v22.1.length : Nat) : Int)))))) (by kernel_rfl) ?_
                          refine HOps_end (by kernel_rfl) ?_
                          exact J_mk (((v101.1.length : Nat) : Int) != ((v22.1.length : Nat) : Int)) hm (by kernel_rfl) (by kernel_rfl)
      · refine R_region 6 (rg Tryd.f8 [1, 1, 1, 1, 0, 0]) (by kernel_rfl) ?_
        have k27 : opsOk 261 (rg Tryd.f8 [1, 1, 1, 1, 0, 0]) = true := by kernel_rfl
        refine P_op k27 (.v (.one (.val (.int .i64 v22.2)))) (by kernel_rfl) ?_
        refine P_op k27 (.v (.one (.val (.bool (v22.2 == 0))))) (by kernel_rfl) ?_
        refine P_op k27 (.v (.one (.bptr 1 0 1))) (by kernel_rfl) ?_
        refine P_op k27 (.v (.one (tl e_Reading default a1.Read))) (by kernel_rfl) ?_
        refine P_op k27 (.v (.one (.val (.int .i64 ((a1.Read.length : Nat) : Int))))) (by kernel_rfl) ?_
        refine P_op k27 (.v (.one (.val (.int .i64 v25.1)))) (by kernel_rfl) ?_
        refine P_op k27 (.v (.one (.val (.int .i64 (w64 (((a1.Read.length : Nat) : Int) - v25.1)))))) (by kernel_rfl) ?_
        refine P_op k27 (.v (.one (.val (.bool (decide ((w64 (((a1.Read.length : Nat) : Int) - v25.1)) ≥ 3)))))) (by kernel_rfl) ?_
        refine P_op k27 (.v (.one (.val (.bool (decide ((w64 (((a1.Read.length : Nat) : Int) - v25.1)) ≥ 3)))))) (by kernel_rfl) ?_
        refine HOps_bool 68 (decide ((w64 (((a1.Read.length : Nat) : Int) - v25.1)) ≥ 3)) (by kernel_rfl) (fun b28 => ?_) (fun b28 => ?_)
        · replace hm := bif_t b28 hm
          refine P_op k27 (.v (.one (.val (.int .i64 v25.1)))) (by kernel_rfl) ?_
          refine P_op k27 (.v (.one (.val (.bool (v25.1 == 0))))) (by kernel_rfl) ?_
          refine P_op k27 (.v (.one (.val (.bool (v25.1 == 0))))) (by kernel_rfl) ?_
          refine HOps_bool 71 (v25.1 == 0) (by kernel_rfl) (fun b29 => ?_) (fun b29 => ?_)
          · replace hm := bif_t b29 hm
            refine P_skip k27 (by kernel_rfl) ?_
            refine P_skip k27 (by kernel_rfl) ?_
            refine P_skip k27 (by kernel_rfl) ?_
            refine P_op k27 (.v (.one (.val (.bool true)))) (by kernel_rfl) ?_
            refine P_op k27 (.v (.one (.val (.bool true)))) (by kernel_rfl) ?_
            refine P_op k27 (.v (.one (.val (.bool (!((v22.2 == 0) == true)))))) (by kernel_rfl) ?_
            refine HOps_end (by kernel_rfl) ?_
            exact J_mk (!((v22.2 == 0) == true)) hm (by kernel_rfl) (by kernel_rfl)
          · replace hm := bif_f b29 hm
            refine P_op k27 (.v (.one (.val (.int .i64 v25.2)))) (by kernel_rfl) ?_
            refine P_op k27 (.v (.one (.val (.int .i64 a2)))) (by kernel_rfl) ?_
            refine P_op k27 (.v (.one (.val (.bool (decide (v25.2 ≤ a2)))))) (by kernel_rfl) ?_
            refine P_op k27 (.v (.one (.val (.bool (decide (v25.2 ≤ a2)))))) (by kernel_rfl) ?_
            refine P_op k27 (.v (.one (.val (.bool (decide (v25.2 ≤ a2)))))) (by kernel_rfl) ?_
            refine P_op k27 (.v (.one (.val (.bool (!((v22.2 == 0) == (decide (v25.2 ≤ a2)))))))) (by kernel_rfl) ?_
            refine HOps_end (by kernel_rfl) ?_
            exact J_mk (!((v22.2 == 0) == (decide (v25.2 ≤ a2)))) hm (by kernel_rfl) (by kernel_rfl)
        · replace hm := bif_f b28 hm
          refine P_skip k27 (by kernel_rfl) ?_
          refine P_skip k27 (by kernel_rfl) ?_
          refine P_skip k27 (by kernel_rfl) ?_
          refine P_skip k27 (by kernel_rfl) ?_
          refine P_skip k27 (by kernel_rfl) ?_
          refine P_skip k27 (by kernel_rfl) ?_
          refine P_skip k27 (by kernel_rfl) ?_
          refine P_op k27 (.v (.one (.val (.bool false)))) (by kernel_rfl) ?_
          refine P_op k27 (.v (.one (.val (.bool (!((v22.2 == 0) == false)))))) (by kernel_rfl) ?_
          refine HOps_end (by kernel_rfl) ?_
          exact J_mk (!((v22.2 == 0) == false)) hm (by kernel_rfl) (by kernel_rfl)
  · refine R_region 1 (rg Tryd.f8 [1, 0, 0]) (by kernel_rfl) ?_
    have k4 : opsOk 261 (rg Tryd.f8 [1, 0, 0]) = true := by kernel_rfl
    refine P_op k4 (.v (.agg [.val (.int .i64 a1.Z), tl e_Reading default a1.Read])) (by kernel_rfl) ?_
    obtain ⟨v5, h6, hm⟩ := bind_s hm
    refine P_step k4 (obNv 2 (ring_Check_o v5)) (obSh 2 (ring_Check_o v5)) ((ring_Check_x v5).sh 2) (by kernel_rfl) (Step_call (x := ring_Check_x v5) (ob := ring_Check_o v5) (f := 14) (args := [(.tmp 23)]) (fn := Tryd.f14) (ys := [.agg [.val (.int .i64 a1.Z), tl e_Reading default a1.Read]]) 2 (by kernel_rfl) (by kernel_rfl) (by kernel_rfl) (by kernel_rfl) (by kernel_rfl) (by kernel_rfl) rfl (ring_Check_ok a1 v5 h6) (by kernel_rfl) (by kernel_rfl)) ?_
    refine P_op k4 (.v (.one (.val (.bool (v5 != 0))))) (by kernel_rfl) ?_
    refine P_op k4 (.v (.one (.val (.bool (v5 != 0))))) (by kernel_rfl) ?_
    refine HOps_bool 26 (v5 != 0) (by kernel_rfl) (fun b7 => ?_) (fun b7 => ?_)
    · replace hm := bif_t b7 hm
      refine P_skip k4 (by kernel_rfl) ?_
      refine P_skip k4 (by kernel_rfl) ?_
      refine P_skip k4 (by kernel_rfl) ?_
      refine P_skip k4 (by kernel_rfl) ?_
      refine P_op k4 (.v (.one (.val (.bool true)))) (by kernel_rfl) ?_
      refine HOps_end (by kernel_rfl) ?_
      exact J_mk (true) hm (by kernel_rfl) (by kernel_rfl)
    · replace hm := bif_f b7 hm
      refine P_op k4 (.v (.one (.bptr 1 0 1))) (by kernel_rfl) ?_
      refine P_op k4 (.v (.one (tl e_Reading default a1.Read))) (by kernel_rfl) ?_
      refine P_op k4 (.v (.one (.val (.int .i64 ((a1.Read.length : Nat) : Int))))) (by kernel_rfl) ?_
      refine P_op k4 (.v (.one (.val (.bool (decide (((a1.Read.length : Nat) : Int) > 32)))))) (by kernel_rfl) ?_
      refine P_op k4 (.v (.one (.val (.bool (decide (((a1.Read.length : Nat) : Int) > 32)))))) (by kernel_rfl) ?_
      refine HOps_end (by kernel_rfl) ?_
      exact J_mk (decide (((a1.Read.length : Nat) : Int) > 32)) hm (by kernel_rfl) (by kernel_rfl)

end Saw
end Go.SL
