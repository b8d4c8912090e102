import Derived.Test.YtgpgnlllieekbaaDoorEBase
import Derived.Test.YtgpgnlllieekbaaDoorEFa1
import Derived.Test.YtgpgnlllieekbaaDoorEFa7
import Derived.Test.YtgpgnlllieekbaaDoorEFa6
import Derived.Test.YtgpgnlllieekbaaDoorEFa2
set_option linter.unusedVariables false
set_option linter.unusedSimpArgs false
namespace Go.SL
namespace Saw
open Go.Proofs
set_option maxHeartbeats 4000000

def edge_Line_x (r : Line × Int) : V := .tup [.agg [ci r.1.Len, ci r.1.Kerf, ci r.1.Pitch, .own 0 0 1 r.1.Sizes.length, .own 1 0 1 r.1.Gain.length, .own 2 0 1 r.1.Chip.length, .own 3 0 1 r.1.Dust.length], .one (ci r.2)]

def edge_Line_o (r : Line × Int) : List (Nat × (Nat × O)) := [(0, ro 0 3 1 r.1.Sizes.length (rf e_i64 r.1.Sizes)), (1, ro 0 25 1 r.1.Gain.length (rf (e_lst e_i64) r.1.Gain)), (2, ro 0 3 1 r.1.Chip.length (rf e_i64 r.1.Chip)), (3, ro 0 3 1 r.1.Dust.length (rf e_i64 r.1.Dust))]

def edge_Line_k3_S (a1 : List Slice) (a2 : List Defect) (a3 : List Product) (a4 : Rect) (a5 : Saw) (a6 : Rates) (v10 : (List Int) × (List Int)) (x12 : Int) (l13 : List (List Int)) (l16 : List Int) (x17 : Int) (x27 : Int) : St :=
  ⟨[(0, vc (tl e_Slice default a1)), (1, vc (tl e_Defect default a2)), (2, vc (tl e_Product default a3)), (9, vp 0 0), (10, vp 1 0), (11, vp 2 0), (12, vp 3 0), (15, vi (w64 (a4.X.B - a4.X.A))), (17, vo 5 0 1 v10.2.length), (18, vp 6 0), (19, vi x12), (20, vi (v10.1.getD x12.toNat default)), (21, vo 8 0 1 l16.length), (22, vi x17), (23, vi x27), (62, vo 4 0 1 v10.1.length), (63, vi ((v10.1.length : Nat) : Int)), (64, vi x12)], [(0, bx 35 [ci a4.X.A, ci a4.X.B, ci a4.Y.A, ci a4.Y.B]), (1, bx 37 [ci a5.Kerf, ci a5.Trim, ci a5.Pitch, ci a5.Step]), (2, bx 39 [ci a6.Chip, ci a6.Dust, ci a6.Fine]), (3, bx 64 [ci 0, ci 0, ci 0, .emp, .emp, .emp, .emp]), (4, ro 0 3 1 v10.1.length (rf e_i64 v10.1)), (5, ro 0 3 1 v10.2.length (rf e_i64 v10.2)), (6, bx 64 [ci (w64 (a4.X.B - a4.X.A)), ci a5.Kerf, ci 1, .own 4 0 1 v10.1.length, .own 7 0 1 l13.length, .emp, .emp]), (7, ro 0 25 1 l13.length (rf (e_lst e_i64) l13)), (8, ro 0 3 1 l16.length (rf e_i64 l16))]⟩

def edge_Line_L2_S (a1 : List Slice) (a2 : List Defect) (a3 : List Product) (a4 : Rect) (a5 : Saw) (a6 : Rates) (v10 : (List Int) × (List Int)) (x12 : Int) (l13 : List (List Int)) (l16 : List Int) (l16n : Nat) (x17 : Int) : St :=
  ⟨[(0, vc (tl e_Slice default a1)), (1, vc (tl e_Defect default a2)), (2, vc (tl e_Product default a3)), (9, vp 0 0), (10, vp 1 0), (11, vp 2 0), (12, vp 3 0), (15, vi (w64 (a4.X.B - a4.X.A))), (17, vo 5 0 1 v10.2.length), (18, vp 6 0), (19, vi x12), (20, vi (v10.1.getD x12.toNat default)), (21, vo 8 0 1 l16n), (22, vi x17), (62, vo 4 0 1 v10.1.length), (63, vi ((v10.1.length : Nat) : Int)), (64, vi x12)], [(0, bx 35 [ci a4.X.A, ci a4.X.B, ci a4.Y.A, ci a4.Y.B]), (1, bx 37 [ci a5.Kerf, ci a5.Trim, ci a5.Pitch, ci a5.Step]), (2, bx 39 [ci a6.Chip, ci a6.Dust, ci a6.Fine]), (3, bx 64 [ci 0, ci 0, ci 0, .emp, .emp, .emp, .emp]), (4, ro 0 3 1 v10.1.length (rf e_i64 v10.1)), (5, ro 0 3 1 v10.2.length (rf e_i64 v10.2)), (6, bx 64 [ci (w64 (a4.X.B - a4.X.A)), ci a5.Kerf, ci 1, .own 4 0 1 v10.1.length, .own 7 0 1 l13.length, .emp, .emp]), (7, ro 0 25 1 l13.length (rf (e_lst e_i64) l13)), (8, ro 0 3 1 l16n (rf e_i64 l16))]⟩

def edge_Line_L2_T (a1 : List Slice) (a2 : List Defect) (a3 : List Product) (a4 : Rect) (a5 : Saw) (a6 : Rates) (v10 : (List Int) × (List Int)) (x12 : Int) (l13 : List (List Int)) (l29 : List Int) : St :=
  ⟨[(0, vc (tl e_Slice default a1)), (1, vc (tl e_Defect default a2)), (2, vc (tl e_Product default a3)), (9, vp 0 0), (10, vp 1 0), (11, vp 2 0), (12, vp 3 0), (15, vi (w64 (a4.X.B - a4.X.A))), (17, vo 5 0 1 v10.2.length), (18, vp 6 0), (21, vo 8 0 1 l29.length), (62, vo 4 0 1 v10.1.length), (63, vi ((v10.1.length : Nat) : Int)), (64, vi x12)], [(0, bx 35 [ci a4.X.A, ci a4.X.B, ci a4.Y.A, ci a4.Y.B]), (1, bx 37 [ci a5.Kerf, ci a5.Trim, ci a5.Pitch, ci a5.Step]), (2, bx 39 [ci a6.Chip, ci a6.Dust, ci a6.Fine]), (3, bx 64 [ci 0, ci 0, ci 0, .emp, .emp, .emp, .emp]), (4, ro 0 3 1 v10.1.length (rf e_i64 v10.1)), (5, ro 0 3 1 v10.2.length (rf e_i64 v10.2)), (6, bx 64 [ci (w64 (a4.X.B - a4.X.A)), ci a5.Kerf, ci 1, .own 4 0 1 v10.1.length, .own 7 0 1 l13.length, .emp, .emp]), (7, ro 0 25 1 l13.length (rf (e_lst e_i64) l13)), (8, ro 0 3 1 l29.length (rf e_i64 l29))]⟩

def edge_Line_L1_S (a1 : List Slice) (a2 : List Defect) (a3 : List Product) (a4 : Rect) (a5 : Saw) (a6 : Rates) (v10 : (List Int) × (List Int)) (x12 : Int) (l13 : List (List Int)) (l13n : Nat) : St :=
  ⟨[(0, vc (tl e_Slice default a1)), (1, vc (tl e_Defect default a2)), (2, vc (tl e_Product default a3)), (9, vp 0 0), (10, vp 1 0), (11, vp 2 0), (12, vp 3 0), (15, vi (w64 (a4.X.B - a4.X.A))), (17, vo 5 0 1 v10.2.length), (18, vp 6 0), (62, vo 4 0 1 v10.1.length), (63, vi ((v10.1.length : Nat) : Int)), (64, vi x12)], [(0, bx 35 [ci a4.X.A, ci a4.X.B, ci a4.Y.A, ci a4.Y.B]), (1, bx 37 [ci a5.Kerf, ci a5.Trim, ci a5.Pitch, ci a5.Step]), (2, bx 39 [ci a6.Chip, ci a6.Dust, ci a6.Fine]), (3, bx 64 [ci 0, ci 0, ci 0, .emp, .emp, .emp, .emp]), (4, ro 0 3 1 v10.1.length (rf e_i64 v10.1)), (5, ro 0 3 1 v10.2.length (rf e_i64 v10.2)), (6, bx 64 [ci (w64 (a4.X.B - a4.X.A)), ci a5.Kerf, ci 1, .own 4 0 1 v10.1.length, .own 7 0 1 l13n, .emp, .emp]), (7, ro 0 25 1 l13n (rf (e_lst e_i64) l13))]⟩

def edge_Line_L1_T (a1 : List Slice) (a4 : Rect) (a5 : Saw) (a6 : Rates) (v10 : (List Int) × (List Int)) (l33 : List (List Int)) : St :=
  ⟨[(0, vc (tl e_Slice default a1)), (9, vp 0 0), (11, vp 2 0), (12, vp 3 0), (15, vi (w64 (a4.X.B - a4.X.A))), (18, vp 6 0)], [(0, bx 35 [ci a4.X.A, ci a4.X.B, ci a4.Y.A, ci a4.Y.B]), (2, bx 39 [ci a6.Chip, ci a6.Dust, ci a6.Fine]), (3, bx 64 [ci 0, ci 0, ci 0, .emp, .emp, .emp, .emp]), (4, ro 0 3 1 v10.1.length (rf e_i64 v10.1)), (6, bx 64 [ci (w64 (a4.X.B - a4.X.A)), ci a5.Kerf, ci 1, .own 4 0 1 v10.1.length, .own 7 0 1 l33.length, .emp, .emp]), (7, ro 0 25 1 l33.length (rf (e_lst e_i64) l33))]⟩

def edge_Line_L4_S (a1 : List Slice) (a4 : Rect) (a5 : Saw) (a6 : Rates) (v10 : (List Int) × (List Int)) (o34 : (List (List Int))) (v36 : Int) (x38 : Int) (l39 : List Int) (l39n : Nat) (l40 : List Int) (l40n : Nat) : St :=
  ⟨[(0, vc (tl e_Slice default a1)), (9, vp 0 0), (11, vp 2 0), (12, vp 3 0), (18, vp 6 0), (24, vp 8 0), (113, vi (w64 (a4.X.B - a4.X.A))), (114, vi x38)], [(0, bx 35 [ci a4.X.A, ci a4.X.B, ci a4.Y.A, ci a4.Y.B]), (2, bx 39 [ci a6.Chip, ci a6.Dust, ci a6.Fine]), (3, bx 64 [ci 0, ci 0, ci 0, .emp, .emp, .emp, .emp]), (4, ro 0 3 1 v10.1.length (rf e_i64 v10.1)), (6, bx 64 [ci (w64 (a4.X.B - a4.X.A)), ci a5.Kerf, ci 1, .own 4 0 1 v10.1.length, .own 7 0 1 o34.length, .own 9 0 1 l39n, .own 10 0 1 l40n]), (7, ro 0 25 1 o34.length (rf (e_lst e_i64) o34)), (8, bx 33 [ci 0, ci v36]), (9, ro 0 3 1 l39n (rf e_i64 l39)), (10, ro 0 3 1 l40n (rf e_i64 l40))]⟩

def edge_Line_L4_T (a4 : Rect) (a5 : Saw) (v10 : (List Int) × (List Int)) (o34 : (List (List Int))) (l48 : List Int) (l49 : List Int) : St :=
  ⟨[(12, vp 3 0), (18, vp 6 0)], [(3, bx 64 [ci 0, ci 0, ci 0, .emp, .emp, .emp, .emp]), (4, ro 0 3 1 v10.1.length (rf e_i64 v10.1)), (6, bx 64 [ci (w64 (a4.X.B - a4.X.A)), ci a5.Kerf, ci 1, .own 4 0 1 v10.1.length, .own 7 0 1 o34.length, .own 9 0 1 l48.length, .own 10 0 1 l49.length]), (7, ro 0 25 1 o34.length (rf (e_lst e_i64) o34)), (9, ro 0 3 1 l48.length (rf e_i64 l48)), (10, ro 0 3 1 l49.length (rf e_i64 l49))]⟩

set_option maxRecDepth 100000 in
theorem edge_Line_L2_ok (E : Env 0) (a1 : List Slice) (a2 : List Defect) (a3 : List Product) (a4 : Rect) (a5 : Saw) (a6 : Rates) (v10 : (List Int) × (List Int)) (x12 : Int) (l13 : List (List Int)) : ∀ (n : Nat) (l16 : List Int) (l16n : Nat) (x17 : Int) (res : (List Int)), l16.length = l16n → edge_Line_L2 a1 a2 a3 a4 a5 a6 v10 x12 n l16 x17 = some res → HL (kx E 145 0) (nd Tryd.f32 1037108) (loopQ0 2 (fun o => edge_Line_L2_T a1 a2 a3 a4 a5 a6 v10 x12 l13 o) res) n (edge_Line_L2_S a1 a2 a3 a4 a5 a6 v10 x12 l13 l16 l16n x17) := by
  intro n
  induction n with
  | zero =>
    intro l16 l16n x17 res hl0 hm
    cases hm
  | succ n ih =>
    intro l16 l16n x17 res hl0 hm
    subst hl0
    refine HL_succ ?_
    refine R_sq Tryd.f32 2074216 2074217 (by kernel_rfl) ?_
    refine R_sq Tryd.f32 4148432 4148433 (by kernel_rfl) ?_
    refine R_rn Tryd.f32 4148432 12 [] [] 9 ⟨[(0, vc (tl e_Slice default a1)), (1, vc (tl e_Defect default a2)), (2, vc (tl e_Product default a3)), (9, vp 0 0), (10, vp 1 0), (11, vp 2 0), (12, vp 3 0), (15, vi (w64 (a4.X.B - a4.X.A))), (17, vo 5 0 1 v10.2.length), (18, vp 6 0), (19, vi x12), (20, vi (v10.1.getD x12.toNat default)), (21, vo 8 0 1 l16.length), (22, vi x17), (62, vo 4 0 1 v10.1.length), (63, vi ((v10.1.length : Nat) : Int)), (64, vi x12), (73, vb (decide ((w64 (x17 + (v10.1.getD x12.toNat default))) ≤ (w64 (a4.X.B - a4.X.A)))))], [(0, bx 35 [ci a4.X.A, ci a4.X.B, ci a4.Y.A, ci a4.Y.B]), (1, bx 37 [ci a5.Kerf, ci a5.Trim, ci a5.Pitch, ci a5.Step]), (2, bx 39 [ci a6.Chip, ci a6.Dust, ci a6.Fine]), (3, bx 64 [ci 0, ci 0, ci 0, .emp, .emp, .emp, .emp]), (4, ro 0 3 1 v10.1.length (rf e_i64 v10.1)), (5, ro 0 3 1 v10.2.length (rf e_i64 v10.2)), (6, bx 64 [ci (w64 (a4.X.B - a4.X.A)), ci a5.Kerf, ci 1, .own 4 0 1 v10.1.length, .own 7 0 1 l13.length, .emp, .emp]), (7, ro 0 25 1 l13.length (rf (e_lst e_i64) l13)), (8, ro 0 3 1 l16.length (rf e_i64 l16))]⟩ o0 (by kernel_rfl) (by kernel_rfl) ?_
    refine R_cn Tryd.f32 (.tmp 73) 8296866 8296867 (by kernel_rfl) (decide ((w64 (x17 + (v10.1.getD x12.toNat default))) ≤ (w64 (a4.X.B - a4.X.A)))) (by kernel_rfl) (fun b18 => ?_) (fun b18 => ?_)
    · replace hm := bif_t b18 hm
      refine R_skip (by kernel_rfl) ?_
      refine R_sq Tryd.f32 4148434 4148435 (by kernel_rfl) ?_
      refine R_bk Tryd.f32 3 8296868 (by kernel_rfl) ?_
      refine R_sq Tryd.f32 16593736 16593737 (by kernel_rfl) ?_
      refine R_rn Tryd.f32 16593736 14 [] [] 9 ⟨[(0, vc (tl e_Slice default a1)), (1, vc (tl e_Defect default a2)), (2, vc (tl e_Product default a3)), (9, vp 0 0), (10, vp 1 0), (11, vp 2 0), (12, vp 3 0), (15, vi (w64 (a4.X.B - a4.X.A))), (17, vo 5 0 1 v10.2.length), (18, vp 6 0), (19, vi x12), (20, vi (v10.1.getD x12.toNat default)), (21, vo 8 0 1 l16.length), (22, vi x17), (23, vi (-1)), (62, vo 4 0 1 v10.1.length), (63, vi ((v10.1.length : Nat) : Int)), (64, vi x12)], [(0, bx 35 [ci a4.X.A, ci a4.X.B, ci a4.Y.A, ci a4.Y.B]), (1, bx 37 [ci a5.Kerf, ci a5.Trim, ci a5.Pitch, ci a5.Step]), (2, bx 39 [ci a6.Chip, ci a6.Dust, ci a6.Fine]), (3, bx 64 [ci 0, ci 0, ci 0, .emp, .emp, .emp, .emp]), (4, ro 0 3 1 v10.1.length (rf e_i64 v10.1)), (5, ro 0 3 1 v10.2.length (rf e_i64 v10.2)), (6, bx 64 [ci (w64 (a4.X.B - a4.X.A)), ci a5.Kerf, ci 1, .own 4 0 1 v10.1.length, .own 7 0 1 l13.length, .emp, .emp]), (7, ro 0 25 1 l13.length (rf (e_lst e_i64) l13)), (8, ro 0 3 1 l16.length (rf e_i64 l16))]⟩ o0 (by kernel_rfl) (by kernel_rfl) ?_
      refine R_join (ι := Int) (nd Tryd.f32 33187474) (nd Tryd.f32 33187475) (by kernel_rfl) (fun p => edge_Line_k3_S a1 a2 a3 a4 a5 a6 v10 x12 l13 l16 x17 p) (fun p => edge_Line_k3 l16 x17 (edge_Line_L2 a1 a2 a3 a4 a5 a6 v10 x12 n) p = some res) ?_ ?_
      · rintro x27 hm
        show H _ (edge_Line_k3_S a1 a2 a3 a4 a5 a6 v10 x12 l13 l16 x17 x27) (nd Tryd.f32 33187475) _
        obtain ⟨g28, hm⟩ := bif_n hm
        refine R_rn Tryd.f32 33187475 17 [(2, drw 9 0 (rf e_i64 ([x27] : List Int))), (3, drw 8 1 (rf e_i64 (l16 ++ ([x27] : List Int))))] [] 9 ⟨[(0, vc (tl e_Slice default a1)), (1, vc (tl e_Defect default a2)), (2, vc (tl e_Product default a3)), (9, vp 0 0), (10, vp 1 0), (11, vp 2 0), (12, vp 3 0), (15, vi (w64 (a4.X.B - a4.X.A))), (17, vo 5 0 1 v10.2.length), (18, vp 6 0), (19, vi x12), (20, vi (v10.1.getD x12.toNat default)), (21, vo 8 1 1 (l16.length + 1)), (22, vi x17), (62, vo 4 0 1 v10.1.length), (63, vi ((v10.1.length : Nat) : Int)), (64, vi x12)], [(0, bx 35 [ci a4.X.A, ci a4.X.B, ci a4.Y.A, ci a4.Y.B]), (1, bx 37 [ci a5.Kerf, ci a5.Trim, ci a5.Pitch, ci a5.Step]), (2, bx 39 [ci a6.Chip, ci a6.Dust, ci a6.Fine]), (3, bx 64 [ci 0, ci 0, ci 0, .emp, .emp, .emp, .emp]), (4, ro 0 3 1 v10.1.length (rf e_i64 v10.1)), (5, ro 0 3 1 v10.2.length (rf e_i64 v10.2)), (6, bx 64 [ci (w64 (a4.X.B - a4.X.A)), ci a5.Kerf, ci 1, .own 4 0 1 v10.1.length, .own 7 0 1 l13.length, .emp, .emp]), (7, ro 0 25 1 l13.length (rf (e_lst e_i64) l13)), (8, ro 1 3 1 (l16.length + 1) (rf e_i64 (l16 ++ ([x27] : List Int))))]⟩ (o1 (And.intro (litP e_i64 default 1 (fun _ => rfl) ([x27] : List Int) 1 rfl) (apP e_i64 default l16 ([x27] : List Int) l16.length 1 1 8 (1 ≤ 1) (Nat.le_refl _) rfl rfl (fun _ => rfl) (room_of g28)))) (by kernel_rfl) (by kernel_rfl) ?_
        refine R_rn Tryd.f32 4148435 13 [] [] 10 ⟨[(0, vc (tl e_Slice default a1)), (1, vc (tl e_Defect default a2)), (2, vc (tl e_Product default a3)), (9, vp 0 0), (10, vp 1 0), (11, vp 2 0), (12, vp 3 0), (15, vi (w64 (a4.X.B - a4.X.A))), (17, vo 5 0 1 v10.2.length), (18, vp 6 0), (19, vi x12), (20, vi (v10.1.getD x12.toNat default)), (21, vo 8 1 1 (l16.length + 1)), (22, vi (w64 (x17 + 1))), (62, vo 4 0 1 v10.1.length), (63, vi ((v10.1.length : Nat) : Int)), (64, vi x12)], [(0, bx 35 [ci a4.X.A, ci a4.X.B, ci a4.Y.A, ci a4.Y.B]), (1, bx 37 [ci a5.Kerf, ci a5.Trim, ci a5.Pitch, ci a5.Step]), (2, bx 39 [ci a6.Chip, ci a6.Dust, ci a6.Fine]), (3, bx 64 [ci 0, ci 0, ci 0, .emp, .emp, .emp, .emp]), (4, ro 0 3 1 v10.1.length (rf e_i64 v10.1)), (5, ro 0 3 1 v10.2.length (rf e_i64 v10.2)), (6, bx 64 [ci (w64 (a4.X.B - a4.X.A)), ci a5.Kerf, ci 1, .own 4 0 1 v10.1.length, .own 7 0 1 l13.length, .emp, .emp]), (7, ro 0 25 1 l13.length (rf (e_lst e_i64) l13)), (8, ro 1 3 1 (l16.length + 1) (rf e_i64 (l16 ++ ([x27] : List Int))))]⟩ o0 (by kernel_rfl) (by kernel_rfl) ?_
        exact HL_enter (edge_Line_L2_S a1 a2 a3 a4 a5 a6 v10 x12 l13 (l16 ++ ([x27] : List Int)) (l16.length + 1) (w64 (x17 + 1))) (by kernel_rfl) (by kernel_rfl) (ih (l16 ++ ([x27] : List Int)) (l16.length + 1) (w64 (x17 + 1)) _ (len_app rfl rfl) hm)
      · refine R_sq Tryd.f32 66374948 66374949 (by kernel_rfl) ?_
        obtain ⟨g19, hm⟩ := bif_n hm
        refine R_rn Tryd.f32 66374948 15 [] [] 9 ⟨[(0, vc (tl e_Slice default a1)), (1, vc (tl e_Defect default a2)), (2, vc (tl e_Product default a3)), (9, vp 0 0), (10, vp 1 0), (11, vp 2 0), (12, vp 3 0), (15, vi (w64 (a4.X.B - a4.X.A))), (17, vo 5 0 1 v10.2.length), (18, vp 6 0), (19, vi x12), (20, vi (v10.1.getD x12.toNat default)), (21, vo 8 0 1 l16.length), (22, vi x17), (23, vi (-1)), (62, vo 4 0 1 v10.1.length), (63, vi ((v10.1.length : Nat) : Int)), (64, vi x12), (80, vb ((Int.tmod x17 a5.Pitch) == 0))], [(0, bx 35 [ci a4.X.A, ci a4.X.B, ci a4.Y.A, ci a4.Y.B]), (1, bx 37 [ci a5.Kerf, ci a5.Trim, ci a5.Pitch, ci a5.Step]), (2, bx 39 [ci a6.Chip, ci a6.Dust, ci a6.Fine]), (3, bx 64 [ci 0, ci 0, ci 0, .emp, .emp, .emp, .emp]), (4, ro 0 3 1 v10.1.length (rf e_i64 v10.1)), (5, ro 0 3 1 v10.2.length (rf e_i64 v10.2)), (6, bx 64 [ci (w64 (a4.X.B - a4.X.A)), ci a5.Kerf, ci 1, .own 4 0 1 v10.1.length, .own 7 0 1 l13.length, .emp, .emp]), (7, ro 0 25 1 l13.length (rf (e_lst e_i64) l13)), (8, ro 0 3 1 l16.length (rf e_i64 l16))]⟩ (o1 (nz_of g19)) (by kernel_rfl) (by kernel_rfl) ?_
        refine R_cn Tryd.f32 (.tmp 80) 132749898 132749899 (by kernel_rfl) ((Int.tmod x17 a5.Pitch) == 0) (by kernel_rfl) (fun b20 => ?_) (fun b20 => ?_)
        · replace hm := bif_t b20 hm
          obtain ⟨g21, hm⟩ := bif_n hm
          obtain ⟨g22, hm⟩ := bif_n hm
          obtain ⟨v23, h24, hm⟩ := bind_s hm
          obtain ⟨v25, h26, hm⟩ := bind_s hm
          refine R_dr Tryd.f32 132749898 16 [] [(14, dex (cen [] [] 9 0 (edge_part_x v23) (edge_part_o v23) [90, 91, 94] [])), (17, dex (cen [] [] 9 0 (edge_gain_x v25) (edge_gain_o v25) [81, 82, 89, 95, 96, 97] []))] [] [0, 0, 0, 0, 0, 24, 56, 124, 252, 0, 0, 0, 0, 6144, 15872, 0, 0, 131071, 262143] 9 ⟨[(0, vc (tl e_Slice default a1)), (1, vc (tl e_Defect default a2)), (2, vc (tl e_Product default a3)), (9, vp 0 0), (10, vp 1 0), (11, vp 2 0), (12, vp 3 0), (15, vi (w64 (a4.X.B - a4.X.A))), (17, vo 5 0 1 v10.2.length), (18, vp 6 0), (19, vi x12), (20, vi (v10.1.getD x12.toNat default)), (21, vo 8 0 1 l16.length), (22, vi x17), (23, vi v25), (62, vo 4 0 1 v10.1.length), (63, vi ((v10.1.length : Nat) : Int)), (64, vi x12)], [(0, bx 35 [ci a4.X.A, ci a4.X.B, ci a4.Y.A, ci a4.Y.B]), (1, bx 37 [ci a5.Kerf, ci a5.Trim, ci a5.Pitch, ci a5.Step]), (2, bx 39 [ci a6.Chip, ci a6.Dust, ci a6.Fine]), (3, bx 64 [ci 0, ci 0, ci 0, .emp, .emp, .emp, .emp]), (4, ro 0 3 1 v10.1.length (rf e_i64 v10.1)), (5, ro 0 3 1 v10.2.length (rf e_i64 v10.2)), (6, bx 64 [ci (w64 (a4.X.B - a4.X.A)), ci a5.Kerf, ci 1, .own 4 0 1 v10.1.length, .own 7 0 1 l13.length, .emp, .emp]), (7, ro 0 25 1 l13.length (rf (e_lst e_i64) l13)), (8, ro 0 3 1 l16.length (rf e_i64 l16))]⟩ (o1 (And.intro (inb_of g21) (And.intro (toNat_lt (inb_of g21)) (And.intro (inb_of g22) (And.intro (callS (K := (kx E 145 0)) ⟨[(90, va [ci a4.X.A, ci a4.X.B, ci a4.Y.A, ci a4.Y.B]), (91, vi x17), (94, vi (w64 (x17 + (v10.1.getD x12.toNat default))))], []⟩ (opAt (rg Tryd.f32 132749898) 14) [] [] 9 o0 rfl (edge_part_ok a4 x17 (w64 (x17 + (v10.1.getD x12.toNat default))) v23 h24) (.inl rfl) (by kernel_rfl)) (callS (K := (kx E 145 0)) ⟨[(81, vc (tl e_Slice default a1)), (82, vc (tl e_Defect default a2)), (89, va [cs ((a3.getD (v10.2.getD x12.toNat default).toNat default).Name), ci ((a3.getD (v10.2.getD x12.toNat default).toNat default).Thick), ci ((a3.getD (v10.2.getD x12.toNat default).toNat default).Width), ci ((a3.getD (v10.2.getD x12.toNat default).toNat default).Allow), ci ((a3.getD (v10.2.getD x12.toNat default).toNat default).Wane), tl e_i64 default ((a3.getD (v10.2.getD x12.toNat default).toNat default).Lengths), tl e_i64 default ((a3.getD (v10.2.getD x12.toNat default).toNat default).Prices)]), (95, va [ci v23.X.A, ci v23.X.B, ci v23.Y.A, ci v23.Y.B]), (96, va [ci a5.Kerf, ci a5.Trim, ci a5.Pitch, ci a5.Step]), (97, va [ci a6.Chip, ci a6.Dust, ci a6.Fine])], []⟩ (opAt (rg Tryd.f32 132749898) 17) [] [] 9 o0 rfl (edge_gain_ok a1 a2 (a3.getD (v10.2.getD x12.toNat default).toNat default) v23 a5 a6 v25 h26) (.inl rfl) (by kernel_rfl))))))) (by kernel_rfl) (by kernel_rfl) ?_
          exact J_mk (v25) hm (by kernel_rfl) (by kernel_rfl)
        · replace hm := bif_f b20 hm
          refine R_skip (by kernel_rfl) ?_
          exact J_mk ((-1)) hm (by kernel_rfl) (by kernel_rfl)
    · replace hm := bif_f b18 hm
      refine R_exit 2 (by kernel_rfl) ?_
      obtain rfl := Option.some.inj hm
      exact L0_mk (by kernel_rfl) (by kernel_rfl)

set_option maxRecDepth 100000 in
theorem edge_Line_L1_ok (E : Env 0) (a1 : List Slice) (a2 : List Defect) (a3 : List Product) (a4 : Rect) (a5 : Saw) (a6 : Rates) (v10 : (List Int) × (List Int)) : ∀ (n : Nat) (x12 : Int) (l13 : List (List Int)) (l13n : Nat) (res : (List (List Int))), l13.length = l13n → edge_Line_L1 a1 a2 a3 a4 a5 a6 v10 n x12 l13 = some res → HL (kx E 145 0) (nd Tryd.f32 1012) (loopQ0 0 (fun o => edge_Line_L1_T a1 a4 a5 a6 v10 o) res) n (edge_Line_L1_S a1 a2 a3 a4 a5 a6 v10 x12 l13 l13n) := by
  intro n
  induction n with
  | zero =>
    intro x12 l13 l13n res hl0 hm
    cases hm
  | succ n ih =>
    intro x12 l13 l13n res hl0 hm
    subst hl0
    refine HL_succ ?_
    refine R_sq Tryd.f32 2024 2025 (by kernel_rfl) ?_
    refine R_rn Tryd.f32 2024 8 [] [] 8 ⟨[(0, vc (tl e_Slice default a1)), (1, vc (tl e_Defect default a2)), (2, vc (tl e_Product default a3)), (9, vp 0 0), (10, vp 1 0), (11, vp 2 0), (12, vp 3 0), (15, vi (w64 (a4.X.B - a4.X.A))), (17, vo 5 0 1 v10.2.length), (18, vp 6 0), (62, vo 4 0 1 v10.1.length), (63, vi ((v10.1.length : Nat) : Int)), (64, vi x12), (65, vb (decide (x12 < ((v10.1.length : Nat) : Int))))], [(0, bx 35 [ci a4.X.A, ci a4.X.B, ci a4.Y.A, ci a4.Y.B]), (1, bx 37 [ci a5.Kerf, ci a5.Trim, ci a5.Pitch, ci a5.Step]), (2, bx 39 [ci a6.Chip, ci a6.Dust, ci a6.Fine]), (3, bx 64 [ci 0, ci 0, ci 0, .emp, .emp, .emp, .emp]), (4, ro 0 3 1 v10.1.length (rf e_i64 v10.1)), (5, ro 0 3 1 v10.2.length (rf e_i64 v10.2)), (6, bx 64 [ci (w64 (a4.X.B - a4.X.A)), ci a5.Kerf, ci 1, .own 4 0 1 v10.1.length, .own 7 0 1 l13.length, .emp, .emp]), (7, ro 0 25 1 l13.length (rf (e_lst e_i64) l13))]⟩ o0 (by kernel_rfl) (by kernel_rfl) ?_
    refine R_sq Tryd.f32 4050 4051 (by kernel_rfl) ?_
    refine R_cn Tryd.f32 (.tmp 65) 8100 8101 (by kernel_rfl) (decide (x12 < ((v10.1.length : Nat) : Int))) (by kernel_rfl) (fun b14 => ?_) (fun b14 => ?_)
    · replace hm := bif_t b14 hm
      refine R_skip (by kernel_rfl) ?_
      refine R_sq Tryd.f32 8102 8103 (by kernel_rfl) ?_
      refine R_bk Tryd.f32 1 16204 (by kernel_rfl) ?_
      refine R_sq Tryd.f32 32408 32409 (by kernel_rfl) ?_
      obtain ⟨g15, hm⟩ := bif_n hm
      refine R_rn Tryd.f32 32408 9 [] [] 8 ⟨[(0, vc (tl e_Slice default a1)), (1, vc (tl e_Defect default a2)), (2, vc (tl e_Product default a3)), (9, vp 0 0), (10, vp 1 0), (11, vp 2 0), (12, vp 3 0), (15, vi (w64 (a4.X.B - a4.X.A))), (17, vo 5 0 1 v10.2.length), (18, vp 6 0), (19, vi x12), (20, vi (v10.1.getD x12.toNat default)), (62, vo 4 0 1 v10.1.length), (63, vi ((v10.1.length : Nat) : Int)), (64, vi x12)], [(0, bx 35 [ci a4.X.A, ci a4.X.B, ci a4.Y.A, ci a4.Y.B]), (1, bx 37 [ci a5.Kerf, ci a5.Trim, ci a5.Pitch, ci a5.Step]), (2, bx 39 [ci a6.Chip, ci a6.Dust, ci a6.Fine]), (3, bx 64 [ci 0, ci 0, ci 0, .emp, .emp, .emp, .emp]), (4, ro 0 3 1 v10.1.length (rf e_i64 v10.1)), (5, ro 0 3 1 v10.2.length (rf e_i64 v10.2)), (6, bx 64 [ci (w64 (a4.X.B - a4.X.A)), ci a5.Kerf, ci 1, .own 4 0 1 v10.1.length, .own 7 0 1 l13.length, .emp, .emp]), (7, ro 0 25 1 l13.length (rf (e_lst e_i64) l13))]⟩ (o1 (And.intro (inb_of g15) (toNat_lt (inb_of g15)))) (by kernel_rfl) (by kernel_rfl) ?_
      refine R_sq Tryd.f32 64818 64819 (by kernel_rfl) ?_
      refine R_rn Tryd.f32 64818 10 [] [] 8 ⟨[(0, vc (tl e_Slice default a1)), (1, vc (tl e_Defect default a2)), (2, vc (tl e_Product default a3)), (9, vp 0 0), (10, vp 1 0), (11, vp 2 0), (12, vp 3 0), (15, vi (w64 (a4.X.B - a4.X.A))), (17, vo 5 0 1 v10.2.length), (18, vp 6 0), (19, vi x12), (20, vi (v10.1.getD x12.toNat default)), (21, vc (.emp)), (62, vo 4 0 1 v10.1.length), (63, vi ((v10.1.length : Nat) : Int)), (64, vi x12)], [(0, bx 35 [ci a4.X.A, ci a4.X.B, ci a4.Y.A, ci a4.Y.B]), (1, bx 37 [ci a5.Kerf, ci a5.Trim, ci a5.Pitch, ci a5.Step]), (2, bx 39 [ci a6.Chip, ci a6.Dust, ci a6.Fine]), (3, bx 64 [ci 0, ci 0, ci 0, .emp, .emp, .emp, .emp]), (4, ro 0 3 1 v10.1.length (rf e_i64 v10.1)), (5, ro 0 3 1 v10.2.length (rf e_i64 v10.2)), (6, bx 64 [ci (w64 (a4.X.B - a4.X.A)), ci a5.Kerf, ci 1, .own 4 0 1 v10.1.length, .own 7 0 1 l13.length, .emp, .emp]), (7, ro 0 25 1 l13.length (rf (e_lst e_i64) l13))]⟩ o0 (by kernel_rfl) (by kernel_rfl) ?_
      refine R_sq Tryd.f32 129638 129639 (by kernel_rfl) ?_
      refine R_sq Tryd.f32 259276 259277 (by kernel_rfl) ?_
      refine R_rn Tryd.f32 259276 11 [] [] 8 ⟨[(0, vc (tl e_Slice default a1)), (1, vc (tl e_Defect default a2)), (2, vc (tl e_Product default a3)), (9, vp 0 0), (10, vp 1 0), (11, vp 2 0), (12, vp 3 0), (15, vi (w64 (a4.X.B - a4.X.A))), (17, vo 5 0 1 v10.2.length), (18, vp 6 0), (19, vi x12), (20, vi (v10.1.getD x12.toNat default)), (21, vc (.emp)), (22, vi 0), (62, vo 4 0 1 v10.1.length), (63, vi ((v10.1.length : Nat) : Int)), (64, vi x12)], [(0, bx 35 [ci a4.X.A, ci a4.X.B, ci a4.Y.A, ci a4.Y.B]), (1, bx 37 [ci a5.Kerf, ci a5.Trim, ci a5.Pitch, ci a5.Step]), (2, bx 39 [ci a6.Chip, ci a6.Dust, ci a6.Fine]), (3, bx 64 [ci 0, ci 0, ci 0, .emp, .emp, .emp, .emp]), (4, ro 0 3 1 v10.1.length (rf e_i64 v10.1)), (5, ro 0 3 1 v10.2.length (rf e_i64 v10.2)), (6, bx 64 [ci (w64 (a4.X.B - a4.X.A)), ci a5.Kerf, ci 1, .own 4 0 1 v10.1.length, .own 7 0 1 l13.length, .emp, .emp]), (7, ro 0 25 1 l13.length (rf (e_lst e_i64) l13))]⟩ o0 (by kernel_rfl) (by kernel_rfl) ?_
      refine H_fin [.own 21 8 3 1 (rf e_i64 ([] : List Int))] ⟨[(0, vc (tl e_Slice default a1)), (1, vc (tl e_Defect default a2)), (2, vc (tl e_Product default a3)), (9, vp 0 0), (10, vp 1 0), (11, vp 2 0), (12, vp 3 0), (15, vi (w64 (a4.X.B - a4.X.A))), (17, vo 5 0 1 v10.2.length), (18, vp 6 0), (19, vi x12), (20, vi (v10.1.getD x12.toNat default)), (21, vo 8 0 1 0), (22, vi 0), (62, vo 4 0 1 v10.1.length), (63, vi ((v10.1.length : Nat) : Int)), (64, vi x12)], [(0, bx 35 [ci a4.X.A, ci a4.X.B, ci a4.Y.A, ci a4.Y.B]), (1, bx 37 [ci a5.Kerf, ci a5.Trim, ci a5.Pitch, ci a5.Step]), (2, bx 39 [ci a6.Chip, ci a6.Dust, ci a6.Fine]), (3, bx 64 [ci 0, ci 0, ci 0, .emp, .emp, .emp, .emp]), (4, ro 0 3 1 v10.1.length (rf e_i64 v10.1)), (5, ro 0 3 1 v10.2.length (rf e_i64 v10.2)), (6, bx 64 [ci (w64 (a4.X.B - a4.X.A)), ci a5.Kerf, ci 1, .own 4 0 1 v10.1.length, .own 7 0 1 l13.length, .emp, .emp]), (7, ro 0 25 1 l13.length (rf (e_lst e_i64) l13)), (8, ro 0 3 1 0 (rf e_i64 ([] : List Int)))]⟩ o0 (by kernel_rfl) ?_
      obtain ⟨o30, h31, hm⟩ := bind_s hm
      refine R_loop0 (nd Tryd.f32 1037108) 2 (by kernel_rfl) FUEL (fun o => edge_Line_L2_T a1 a2 a3 a4 a5 a6 v10 x12 l13 o) o30 (HL_enter (edge_Line_L2_S a1 a2 a3 a4 a5 a6 v10 x12 l13 ([] : List Int) 0 0) (by kernel_rfl) (by kernel_rfl) (edge_Line_L2_ok E a1 a2 a3 a4 a5 a6 v10 x12 l13 FUEL ([] : List Int) 0 0 o30 rfl h31)) ?_
      obtain ⟨g32, hm⟩ := bif_n hm
      refine R_rn Tryd.f32 129639 18 [(3, dpr [.frz 8] (drw 9 0 (rf (e_lst e_i64) ([o30] : List (List Int))))), (4, drw 7 1 (rf (e_lst e_i64) (l13 ++ ([o30] : List (List Int)))))] [] 9 ⟨[(0, vc (tl e_Slice default a1)), (1, vc (tl e_Defect default a2)), (2, vc (tl e_Product default a3)), (9, vp 0 0), (10, vp 1 0), (11, vp 2 0), (12, vp 3 0), (15, vi (w64 (a4.X.B - a4.X.A))), (17, vo 5 0 1 v10.2.length), (18, vp 6 0), (62, vo 4 0 1 v10.1.length), (63, vi ((v10.1.length : Nat) : Int)), (64, vi x12)], [(0, bx 35 [ci a4.X.A, ci a4.X.B, ci a4.Y.A, ci a4.Y.B]), (1, bx 37 [ci a5.Kerf, ci a5.Trim, ci a5.Pitch, ci a5.Step]), (2, bx 39 [ci a6.Chip, ci a6.Dust, ci a6.Fine]), (3, bx 64 [ci 0, ci 0, ci 0, .emp, .emp, .emp, .emp]), (4, ro 0 3 1 v10.1.length (rf e_i64 v10.1)), (5, ro 0 3 1 v10.2.length (rf e_i64 v10.2)), (6, bx 64 [ci (w64 (a4.X.B - a4.X.A)), ci a5.Kerf, ci 1, .own 4 0 1 v10.1.length, .own 7 1 1 (l13.length + 1), .emp, .emp]), (7, ro 1 25 1 (l13.length + 1) (rf (e_lst e_i64) (l13 ++ ([o30] : List (List Int)))))]⟩ (o1 (And.intro (And.intro (Nat.le_refl o30.length) (Nat.le_refl o30.length)) (And.intro (litP (e_lst e_i64) default 1 (fun _ => rfl) ([o30] : List (List Int)) 1 rfl) (apP (e_lst e_i64) default l13 ([o30] : List (List Int)) l13.length 1 1 24 (1 ≤ 1) (Nat.le_refl _) rfl rfl (fun _ => rfl) (room_of g32))))) (by kernel_rfl) (by kernel_rfl) ?_
      refine R_rn Tryd.f32 8103 19 [] [] 10 ⟨[(0, vc (tl e_Slice default a1)), (1, vc (tl e_Defect default a2)), (2, vc (tl e_Product default a3)), (9, vp 0 0), (10, vp 1 0), (11, vp 2 0), (12, vp 3 0), (15, vi (w64 (a4.X.B - a4.X.A))), (17, vo 5 0 1 v10.2.length), (18, vp 6 0), (62, vo 4 0 1 v10.1.length), (63, vi ((v10.1.length : Nat) : Int)), (64, vi (w64 (x12 + 1)))], [(0, bx 35 [ci a4.X.A, ci a4.X.B, ci a4.Y.A, ci a4.Y.B]), (1, bx 37 [ci a5.Kerf, ci a5.Trim, ci a5.Pitch, ci a5.Step]), (2, bx 39 [ci a6.Chip, ci a6.Dust, ci a6.Fine]), (3, bx 64 [ci 0, ci 0, ci 0, .emp, .emp, .emp, .emp]), (4, ro 0 3 1 v10.1.length (rf e_i64 v10.1)), (5, ro 0 3 1 v10.2.length (rf e_i64 v10.2)), (6, bx 64 [ci (w64 (a4.X.B - a4.X.A)), ci a5.Kerf, ci 1, .own 4 0 1 v10.1.length, .own 7 1 1 (l13.length + 1), .emp, .emp]), (7, ro 1 25 1 (l13.length + 1) (rf (e_lst e_i64) (l13 ++ ([o30] : List (List Int)))))]⟩ o0 (by kernel_rfl) (by kernel_rfl) ?_
      exact HL_enter (edge_Line_L1_S a1 a2 a3 a4 a5 a6 v10 (w64 (x12 + 1)) (l13 ++ ([o30] : List (List Int))) (l13.length + 1)) (by kernel_rfl) (by kernel_rfl) (ih (w64 (x12 + 1)) (l13 ++ ([o30] : List (List Int))) (l13.length + 1) _ (len_app rfl rfl) hm)
    · replace hm := bif_f b14 hm
      refine R_exit 0 (by kernel_rfl) ?_
      obtain rfl := Option.some.inj hm
      exact L0_mk (by kernel_rfl) (by kernel_rfl)

set_option maxRecDepth 100000 in
theorem edge_Line_L4_ok (E : Env 0) (a1 : List Slice) (a4 : Rect) (a5 : Saw) (a6 : Rates) (v10 : (List Int) × (List Int)) (o34 : (List (List Int))) (v36 : Int) : ∀ (n : Nat) (x38 : Int) (l39 : List Int) (l39n : Nat) (l40 : List Int) (l40n : Nat) (res : (List Int) × (List Int)), l39.length = l39n → l40.length = l40n → edge_Line_L4 a1 a4 a6 v36 n x38 l39 l40 = some res → HL (kx E 145 0) (nd Tryd.f32 4084) (loopQ0 4 (fun o => edge_Line_L4_T a4 a5 v10 o34 o.1 o.2) res) n (edge_Line_L4_S a1 a4 a5 a6 v10 o34 v36 x38 l39 l39n l40 l40n) := by
  intro n
  induction n with
  | zero =>
    intro x38 l39 l39n l40 l40n res hl0 hl1 hm
    cases hm
  | succ n ih =>
    intro x38 l39 l39n l40 l40n res hl0 hl1 hm
    subst hl0
    subst hl1
    refine HL_succ ?_
    refine R_sq Tryd.f32 8168 8169 (by kernel_rfl) ?_
    refine R_rn Tryd.f32 8168 22 [] [] 11 ⟨[(0, vc (tl e_Slice default a1)), (9, vp 0 0), (11, vp 2 0), (12, vp 3 0), (18, vp 6 0), (24, vp 8 0), (113, vi (w64 (a4.X.B - a4.X.A))), (114, vi x38), (115, vb (decide (x38 < (w64 (a4.X.B - a4.X.A)))))], [(0, bx 35 [ci a4.X.A, ci a4.X.B, ci a4.Y.A, ci a4.Y.B]), (2, bx 39 [ci a6.Chip, ci a6.Dust, ci a6.Fine]), (3, bx 64 [ci 0, ci 0, ci 0, .emp, .emp, .emp, .emp]), (4, ro 0 3 1 v10.1.length (rf e_i64 v10.1)), (6, bx 64 [ci (w64 (a4.X.B - a4.X.A)), ci a5.Kerf, ci 1, .own 4 0 1 v10.1.length, .own 7 0 1 o34.length, .own 9 0 1 l39.length, .own 10 0 1 l40.length]), (7, ro 0 25 1 o34.length (rf (e_lst e_i64) o34)), (8, bx 33 [ci 0, ci v36]), (9, ro 0 3 1 l39.length (rf e_i64 l39)), (10, ro 0 3 1 l40.length (rf e_i64 l40))]⟩ o0 (by kernel_rfl) (by kernel_rfl) ?_
    refine R_sq Tryd.f32 16338 16339 (by kernel_rfl) ?_
    refine R_cn Tryd.f32 (.tmp 115) 32676 32677 (by kernel_rfl) (decide (x38 < (w64 (a4.X.B - a4.X.A)))) (by kernel_rfl) (fun b41 => ?_) (fun b41 => ?_)
    · replace hm := bif_t b41 hm
      refine R_skip (by kernel_rfl) ?_
      refine R_sq Tryd.f32 32678 32679 (by kernel_rfl) ?_
      refine R_bk Tryd.f32 5 65356 (by kernel_rfl) ?_
      refine R_sq Tryd.f32 130712 130713 (by kernel_rfl) ?_
      refine R_rn Tryd.f32 130712 23 [] [] 11 ⟨[(0, vc (tl e_Slice default a1)), (9, vp 0 0), (11, vp 2 0), (12, vp 3 0), (18, vp 6 0), (24, vp 8 0), (25, vi x38), (113, vi (w64 (a4.X.B - a4.X.A))), (114, vi x38)], [(0, bx 35 [ci a4.X.A, ci a4.X.B, ci a4.Y.A, ci a4.Y.B]), (2, bx 39 [ci a6.Chip, ci a6.Dust, ci a6.Fine]), (3, bx 64 [ci 0, ci 0, ci 0, .emp, .emp, .emp, .emp]), (4, ro 0 3 1 v10.1.length (rf e_i64 v10.1)), (6, bx 64 [ci (w64 (a4.X.B - a4.X.A)), ci a5.Kerf, ci 1, .own 4 0 1 v10.1.length, .own 7 0 1 o34.length, .own 9 0 1 l39.length, .own 10 0 1 l40.length]), (7, ro 0 25 1 o34.length (rf (e_lst e_i64) o34)), (8, bx 33 [ci 0, ci v36]), (9, ro 0 3 1 l39.length (rf e_i64 l39)), (10, ro 0 3 1 l40.length (rf e_i64 l40))]⟩ o0 (by kernel_rfl) (by kernel_rfl) ?_
      refine R_sq Tryd.f32 261426 261427 (by kernel_rfl) ?_
      obtain ⟨v42, h43, hm⟩ := bind_s hm
      obtain ⟨v44, h45, hm⟩ := bind_s hm
      refine R_dr Tryd.f32 261426 24 [] [(5, dex (cen [] [] 11 0 (edge_part_x v42) (edge_part_o v42) [118, 119, 121] [])), (7, dex (cen [] [] 11 0 (edge_volume_x v44) (edge_volume_o v44) [117, 122, 123] []))] [] [0, 0, 0, 0, 8, 30, 0, 127, 255] 11 ⟨[(0, vc (tl e_Slice default a1)), (9, vp 0 0), (11, vp 2 0), (12, vp 3 0), (18, vp 6 0), (24, vp 8 0), (26, vi v44), (113, vi (w64 (a4.X.B - a4.X.A))), (114, vi x38)], [(0, bx 35 [ci a4.X.A, ci a4.X.B, ci a4.Y.A, ci a4.Y.B]), (2, bx 39 [ci a6.Chip, ci a6.Dust, ci a6.Fine]), (3, bx 64 [ci 0, ci 0, ci 0, .emp, .emp, .emp, .emp]), (4, ro 0 3 1 v10.1.length (rf e_i64 v10.1)), (6, bx 64 [ci (w64 (a4.X.B - a4.X.A)), ci a5.Kerf, ci 1, .own 4 0 1 v10.1.length, .own 7 0 1 o34.length, .own 9 0 1 l39.length, .own 10 0 1 l40.length]), (7, ro 0 25 1 o34.length (rf (e_lst e_i64) o34)), (8, bx 33 [ci 0, ci v36]), (9, ro 0 3 1 l39.length (rf e_i64 l39)), (10, ro 0 3 1 l40.length (rf e_i64 l40))]⟩ (o1 (And.intro (callS (K := (kx E 145 0)) ⟨[(118, va [ci a4.X.A, ci a4.X.B, ci a4.Y.A, ci a4.Y.B]), (119, vi x38), (121, vi (w64 (x38 + 1)))], []⟩ (opAt (rg Tryd.f32 261426) 5) [] [] 11 o0 rfl (edge_part_ok a4 x38 (w64 (x38 + 1)) v42 h43) (.inl rfl) (by kernel_rfl)) (callS (K := (kx E 145 0)) ⟨[(117, vc (tl e_Slice default a1)), (122, va [ci v42.X.A, ci v42.X.B, ci v42.Y.A, ci v42.Y.B]), (123, va [ci 0, ci v36])], []⟩ (opAt (rg Tryd.f32 261426) 7) [] [] 11 o0 rfl (edge_volume_ok a1 v42 (Span.mk 0 v36) v44 h45) (.inl rfl) (by kernel_rfl)))) (by kernel_rfl) (by kernel_rfl) ?_
      refine R_sq Tryd.f32 522854 522855 (by kernel_rfl) ?_
      obtain ⟨g46, hm⟩ := bif_n hm
      refine R_rn Tryd.f32 522854 25 [(6, drw 11 0 (rf e_i64 ([w64 (a6.Chip * v44)] : List Int))), (7, drw 9 1 (rf e_i64 (l39 ++ ([w64 (a6.Chip * v44)] : List Int))))] [] 11 ⟨[(0, vc (tl e_Slice default a1)), (9, vp 0 0), (11, vp 2 0), (12, vp 3 0), (18, vp 6 0), (24, vp 8 0), (26, vi v44), (113, vi (w64 (a4.X.B - a4.X.A))), (114, vi x38)], [(0, bx 35 [ci a4.X.A, ci a4.X.B, ci a4.Y.A, ci a4.Y.B]), (2, bx 39 [ci a6.Chip, ci a6.Dust, ci a6.Fine]), (3, bx 64 [ci 0, ci 0, ci 0, .emp, .emp, .emp, .emp]), (4, ro 0 3 1 v10.1.length (rf e_i64 v10.1)), (6, bx 64 [ci (w64 (a4.X.B - a4.X.A)), ci a5.Kerf, ci 1, .own 4 0 1 v10.1.length, .own 7 0 1 o34.length, .own 9 1 1 (l39.length + 1), .own 10 0 1 l40.length]), (7, ro 0 25 1 o34.length (rf (e_lst e_i64) o34)), (8, bx 33 [ci 0, ci v36]), (9, ro 1 3 1 (l39.length + 1) (rf e_i64 (l39 ++ ([w64 (a6.Chip * v44)] : List Int)))), (10, ro 0 3 1 l40.length (rf e_i64 l40))]⟩ (o1 (And.intro (litP e_i64 default 1 (fun _ => rfl) ([w64 (a6.Chip * v44)] : List Int) 1 rfl) (apP e_i64 default l39 ([w64 (a6.Chip * v44)] : List Int) l39.length 1 1 8 (1 ≤ 1) (Nat.le_refl _) rfl rfl (fun _ => rfl) (room_of g46)))) (by kernel_rfl) (by kernel_rfl) ?_
      obtain ⟨g47, hm⟩ := bif_n hm
      refine R_rn Tryd.f32 522855 26 [(6, drw 12 0 (rf e_i64 ([w64 (a6.Dust * v44)] : List Int))), (7, drw 10 1 (rf e_i64 (l40 ++ ([w64 (a6.Dust * v44)] : List Int))))] [] 12 ⟨[(0, vc (tl e_Slice default a1)), (9, vp 0 0), (11, vp 2 0), (12, vp 3 0), (18, vp 6 0), (24, vp 8 0), (113, vi (w64 (a4.X.B - a4.X.A))), (114, vi x38)], [(0, bx 35 [ci a4.X.A, ci a4.X.B, ci a4.Y.A, ci a4.Y.B]), (2, bx 39 [ci a6.Chip, ci a6.Dust, ci a6.Fine]), (3, bx 64 [ci 0, ci 0, ci 0, .emp, .emp, .emp, .emp]), (4, ro 0 3 1 v10.1.length (rf e_i64 v10.1)), (6, bx 64 [ci (w64 (a4.X.B - a4.X.A)), ci a5.Kerf, ci 1, .own 4 0 1 v10.1.length, .own 7 0 1 o34.length, .own 9 1 1 (l39.length + 1), .own 10 1 1 (l40.length + 1)]), (7, ro 0 25 1 o34.length (rf (e_lst e_i64) o34)), (8, bx 33 [ci 0, ci v36]), (9, ro 1 3 1 (l39.length + 1) (rf e_i64 (l39 ++ ([w64 (a6.Chip * v44)] : List Int)))), (10, ro 1 3 1 (l40.length + 1) (rf e_i64 (l40 ++ ([w64 (a6.Dust * v44)] : List Int))))]⟩ (o1 (And.intro (litP e_i64 default 1 (fun _ => rfl) ([w64 (a6.Dust * v44)] : List Int) 1 rfl) (apP e_i64 default l40 ([w64 (a6.Dust * v44)] : List Int) l40.length 1 1 8 (1 ≤ 1) (Nat.le_refl _) rfl rfl (fun _ => rfl) (room_of g47)))) (by kernel_rfl) (by kernel_rfl) ?_
      refine R_rn Tryd.f32 32679 27 [] [] 13 ⟨[(0, vc (tl e_Slice default a1)), (9, vp 0 0), (11, vp 2 0), (12, vp 3 0), (18, vp 6 0), (24, vp 8 0), (113, vi (w64 (a4.X.B - a4.X.A))), (114, vi (w64 (x38 + 1)))], [(0, bx 35 [ci a4.X.A, ci a4.X.B, ci a4.Y.A, ci a4.Y.B]), (2, bx 39 [ci a6.Chip, ci a6.Dust, ci a6.Fine]), (3, bx 64 [ci 0, ci 0, ci 0, .emp, .emp, .emp, .emp]), (4, ro 0 3 1 v10.1.length (rf e_i64 v10.1)), (6, bx 64 [ci (w64 (a4.X.B - a4.X.A)), ci a5.Kerf, ci 1, .own 4 0 1 v10.1.length, .own 7 0 1 o34.length, .own 9 1 1 (l39.length + 1), .own 10 1 1 (l40.length + 1)]), (7, ro 0 25 1 o34.length (rf (e_lst e_i64) o34)), (8, bx 33 [ci 0, ci v36]), (9, ro 1 3 1 (l39.length + 1) (rf e_i64 (l39 ++ ([w64 (a6.Chip * v44)] : List Int)))), (10, ro 1 3 1 (l40.length + 1) (rf e_i64 (l40 ++ ([w64 (a6.Dust * v44)] : List Int))))]⟩ o0 (by kernel_rfl) (by kernel_rfl) ?_
      exact HL_enter (edge_Line_L4_S a1 a4 a5 a6 v10 o34 v36 (w64 (x38 + 1)) (l39 ++ ([w64 (a6.Chip * v44)] : List Int)) (l39.length + 1) (l40 ++ ([w64 (a6.Dust * v44)] : List Int)) (l40.length + 1)) (by kernel_rfl) (by kernel_rfl) (ih (w64 (x38 + 1)) (l39 ++ ([w64 (a6.Chip * v44)] : List Int)) (l39.length + 1) (l40 ++ ([w64 (a6.Dust * v44)] : List Int)) (l40.length + 1) _ (len_app rfl rfl) (len_app rfl rfl) hm)
    · replace hm := bif_f b41 hm
      refine R_exit 4 (by kernel_rfl) ?_
      obtain rfl := Option.some.inj hm
      exact L0_mk (by kernel_rfl) (by kernel_rfl)

set_option maxRecDepth 100000 in
theorem edge_Line_ok (a1 : List Slice) (a2 : List Defect) (a3 : List Product) (a4 : Rect) (a5 : Saw) (a6 : Rates) (r : Line × Int) (hm : edge_Line a1 a2 a3 a4 a5 a6 = some r) : CtX Tryd.prog globs 32 0 0 [.one (tl e_Slice default a1), .one (tl e_Defect default a2), .one (tl e_Product default a3), .agg [ci a4.X.A, ci a4.X.B, ci a4.Y.A, ci a4.Y.B], .agg [ci a5.Kerf, ci a5.Trim, ci a5.Pitch, ci a5.Step], .agg [ci a6.Chip, ci a6.Dust, ci a6.Fine]] [] (edge_Line_x r) (edge_Line_o r) := by
  unfold edge_Line at hm
  refine CtX_of_E (fn := Tryd.f32) (c := nd Tryd.f32 1) (nt := 145) (by kernel_rfl) (by kernel_rfl) (by kernel_rfl) (by kernel_rfl) fun E => ?_
  refine R_sq Tryd.f32 2 3 (by kernel_rfl) ?_
  refine R_rn Tryd.f32 2 0 [] [] 0 ⟨[(0, vc (tl e_Slice default a1)), (1, vc (tl e_Defect default a2)), (2, vc (tl e_Product default a3)), (9, vp 0 0), (10, vp 1 0), (11, vp 2 0), (12, vp 3 0)], [(0, bx 35 [ci a4.X.A, ci a4.X.B, ci a4.Y.A, ci a4.Y.B]), (1, bx 37 [ci a5.Kerf, ci a5.Trim, ci a5.Pitch, ci a5.Step]), (2, bx 39 [ci a6.Chip, ci a6.Dust, ci a6.Fine]), (3, bx 64 [ci 0, ci 0, ci 0, .emp, .emp, .emp, .emp])]⟩ o0 (by kernel_rfl) (by kernel_rfl) ?_
  refine R_sq Tryd.f32 6 7 (by kernel_rfl) ?_
  refine R_sq Tryd.f32 12 13 (by kernel_rfl) ?_
  obtain ⟨v7, h8, hm⟩ := bind_s hm
  refine R_rn Tryd.f32 12 1 [(6, dex (cen [] [] 4 0 (edge_check_x v7) (edge_check_o v7) [27, 28, 29, 30, 31, 32] []))] [] 4 ⟨[(0, vc (tl e_Slice default a1)), (1, vc (tl e_Defect default a2)), (2, vc (tl e_Product default a3)), (9, vp 0 0), (10, vp 1 0), (11, vp 2 0), (12, vp 3 0), (14, vi v7)], [(0, bx 35 [ci a4.X.A, ci a4.X.B, ci a4.Y.A, ci a4.Y.B]), (1, bx 37 [ci a5.Kerf, ci a5.Trim, ci a5.Pitch, ci a5.Step]), (2, bx 39 [ci a6.Chip, ci a6.Dust, ci a6.Fine]), (3, bx 64 [ci 0, ci 0, ci 0, .emp, .emp, .emp, .emp])]⟩ (o1 (callS (K := (kx E 145 0)) ⟨[(27, vc (tl e_Slice default a1)), (28, vc (tl e_Defect default a2)), (29, vc (tl e_Product default a3)), (30, va [ci a4.X.A, ci a4.X.B, ci a4.Y.A, ci a4.Y.B]), (31, va [ci a5.Kerf, ci a5.Trim, ci a5.Pitch, ci a5.Step]), (32, va [ci a6.Chip, ci a6.Dust, ci a6.Fine])], []⟩ (opAt (rg Tryd.f32 12) 6) [] [] 4 o0 rfl (edge_check_ok a1 a2 a3 a4 a5 a6 v7 h8) (.inl rfl) (by kernel_rfl))) (by kernel_rfl) (by kernel_rfl) ?_
  refine R_sq Tryd.f32 26 27 (by kernel_rfl) ?_
  refine R_rn Tryd.f32 26 2 [] [] 4 ⟨[(0, vc (tl e_Slice default a1)), (1, vc (tl e_Defect default a2)), (2, vc (tl e_Product default a3)), (9, vp 0 0), (10, vp 1 0), (11, vp 2 0), (12, vp 3 0), (14, vi v7), (35, vb (v7 != 0))], [(0, bx 35 [ci a4.X.A, ci a4.X.B, ci a4.Y.A, ci a4.Y.B]), (1, bx 37 [ci a5.Kerf, ci a5.Trim, ci a5.Pitch, ci a5.Step]), (2, bx 39 [ci a6.Chip, ci a6.Dust, ci a6.Fine]), (3, bx 64 [ci 0, ci 0, ci 0, .emp, .emp, .emp, .emp])]⟩ o0 (by kernel_rfl) (by kernel_rfl) ?_
  refine R_cn Tryd.f32 (.tmp 35) 54 55 (by kernel_rfl) (v7 != 0) (by kernel_rfl) (fun b9 => ?_) (fun b9 => ?_)
  · replace hm := bif_t b9 hm
    refine R_sq Tryd.f32 108 109 (by kernel_rfl) ?_
    refine R_rn Tryd.f32 108 3 [] [] 4 ⟨[(12, vp 3 0), (13, vi v7)], [(3, bx 64 [ci 0, ci 0, ci 0, .emp, .emp, .emp, .emp])]⟩ o0 (by kernel_rfl) (by kernel_rfl) ?_
    refine H_fin [.ownB 3 3 4 3 1 (rf e_i64 ([] : List Int))] ⟨[(12, vp 3 0), (13, vi v7)], [(3, bx 64 [ci 0, ci 0, ci 0, .own 4 0 1 0, .emp, .emp, .emp]), (4, ro 0 3 1 0 (rf e_i64 ([] : List Int)))]⟩ o0 (by kernel_rfl) ?_
    refine H_fin [.ownB 3 4 5 25 1 (rf (e_lst e_i64) ([] : List (List Int)))] ⟨[(12, vp 3 0), (13, vi v7)], [(3, bx 64 [ci 0, ci 0, ci 0, .own 4 0 1 0, .own 5 0 1 0, .emp, .emp]), (4, ro 0 3 1 0 (rf e_i64 ([] : List Int))), (5, ro 0 25 1 0 (rf (e_lst e_i64) ([] : List (List Int))))]⟩ o0 (by kernel_rfl) ?_
    refine H_fin [.ownB 3 5 6 3 1 (rf e_i64 ([] : List Int))] ⟨[(12, vp 3 0), (13, vi v7)], [(3, bx 64 [ci 0, ci 0, ci 0, .own 4 0 1 0, .own 5 0 1 0, .own 6 0 1 0, .emp]), (4, ro 0 3 1 0 (rf e_i64 ([] : List Int))), (5, ro 0 25 1 0 (rf (e_lst e_i64) ([] : List (List Int)))), (6, ro 0 3 1 0 (rf e_i64 ([] : List Int)))]⟩ o0 (by kernel_rfl) ?_
    refine H_fin [.ownB 3 6 7 3 1 (rf e_i64 ([] : List Int))] ⟨[(12, vp 3 0), (13, vi v7)], [(3, bx 64 [ci 0, ci 0, ci 0, .own 4 0 1 0, .own 5 0 1 0, .own 6 0 1 0, .own 7 0 1 0]), (4, ro 0 3 1 0 (rf e_i64 ([] : List Int))), (5, ro 0 25 1 0 (rf (e_lst e_i64) ([] : List (List Int)))), (6, ro 0 3 1 0 (rf e_i64 ([] : List Int))), (7, ro 0 3 1 0 (rf e_i64 ([] : List Int)))]⟩ o0 (by kernel_rfl) ?_
    refine H_fin [.len 4 (([] : List Int).length)] ⟨[(12, vp 3 0), (13, vi v7)], [(3, bx 64 [ci 0, ci 0, ci 0, .own 4 0 1 (([] : List Int).length), .own 5 0 1 0, .own 6 0 1 0, .own 7 0 1 0]), (4, ro 0 3 1 (([] : List Int).length) (rf e_i64 ([] : List Int))), (5, ro 0 25 1 0 (rf (e_lst e_i64) ([] : List (List Int)))), (6, ro 0 3 1 0 (rf e_i64 ([] : List Int))), (7, ro 0 3 1 0 (rf e_i64 ([] : List Int)))]⟩ (o1 (And.intro (show 0 = ([] : List Int).length from rfl) (show 0 = ([] : List Int).length from rfl))) (by kernel_rfl) ?_
    refine H_fin [.len 5 (([] : List (List Int)).length)] ⟨[(12, vp 3 0), (13, vi v7)], [(3, bx 64 [ci 0, ci 0, ci 0, .own 4 0 1 (([] : List Int).length), .own 5 0 1 (([] : List (List Int)).length), .own 6 0 1 0, .own 7 0 1 0]), (4, ro 0 3 1 (([] : List Int).length) (rf e_i64 ([] : List Int))), (5, ro 0 25 1 (([] : List (List Int)).length) (rf (e_lst e_i64) ([] : List (List Int)))), (6, ro 0 3 1 0 (rf e_i64 ([] : List Int))), (7, ro 0 3 1 0 (rf e_i64 ([] : List Int)))]⟩ (o1 (And.intro (show 0 = ([] : List (List Int)).length from rfl) (show 0 = ([] : List (List Int)).length from rfl))) (by kernel_rfl) ?_
    refine H_fin [.len 6 (([] : List Int).length)] ⟨[(12, vp 3 0), (13, vi v7)], [(3, bx 64 [ci 0, ci 0, ci 0, .own 4 0 1 (([] : List Int).length), .own 5 0 1 (([] : List (List Int)).length), .own 6 0 1 (([] : List Int).length), .own 7 0 1 0]), (4, ro 0 3 1 (([] : List Int).length) (rf e_i64 ([] : List Int))), (5, ro 0 25 1 (([] : List (List Int)).length) (rf (e_lst e_i64) ([] : List (List Int)))), (6, ro 0 3 1 (([] : List Int).length) (rf e_i64 ([] : List Int))), (7, ro 0 3 1 0 (rf e_i64 ([] : List Int)))]⟩ (o1 (And.intro (show 0 = ([] : List Int).length from rfl) (show 0 = ([] : List Int).length from rfl))) (by kernel_rfl) ?_
    refine H_fin [.len 7 (([] : List Int).length)] ⟨[(12, vp 3 0), (13, vi v7)], [(3, bx 64 [ci 0, ci 0, ci 0, .own 4 0 1 (([] : List Int).length), .own 5 0 1 (([] : List (List Int)).length), .own 6 0 1 (([] : List Int).length), .own 7 0 1 (([] : List Int).length)]), (4, ro 0 3 1 (([] : List Int).length) (rf e_i64 ([] : List Int))), (5, ro 0 25 1 (([] : List (List Int)).length) (rf (e_lst e_i64) ([] : List (List Int)))), (6, ro 0 3 1 (([] : List Int).length) (rf e_i64 ([] : List Int))), (7, ro 0 3 1 (([] : List Int).length) (rf e_i64 ([] : List Int)))]⟩ (o1 (And.intro (show 0 = ([] : List Int).length from rfl) (show 0 = ([] : List Int).length from rfl))) (by kernel_rfl) ?_
    obtain rfl := Option.some.inj hm
    refine H_swap 4 0 (by kernel_rfl) ?_
    refine H_swap 5 1 (by kernel_rfl) ?_
    refine H_swap 6 2 (by kernel_rfl) ?_
    refine H_swap 7 3 (by kernel_rfl) ?_
    refine R_ret (by kernel_rfl) ?_
    exact ret_mk (by kernel_rfl) (by kernel_rfl)
  · replace hm := bif_f b9 hm
    refine R_skip (by kernel_rfl) ?_
    refine R_sq Tryd.f32 14 15 (by kernel_rfl) ?_
    refine R_rn Tryd.f32 14 4 [] [] 4 ⟨[(0, vc (tl e_Slice default a1)), (1, vc (tl e_Defect default a2)), (2, vc (tl e_Product default a3)), (9, vp 0 0), (10, vp 1 0), (11, vp 2 0), (12, vp 3 0), (15, vi (w64 (a4.X.B - a4.X.A)))], [(0, bx 35 [ci a4.X.A, ci a4.X.B, ci a4.Y.A, ci a4.Y.B]), (1, bx 37 [ci a5.Kerf, ci a5.Trim, ci a5.Pitch, ci a5.Step]), (2, bx 39 [ci a6.Chip, ci a6.Dust, ci a6.Fine]), (3, bx 64 [ci 0, ci 0, ci 0, .emp, .emp, .emp, .emp])]⟩ o0 (by kernel_rfl) (by kernel_rfl) ?_
    refine R_sq Tryd.f32 30 31 (by kernel_rfl) ?_
    obtain ⟨v10, h11, hm⟩ := bind_s hm
    refine R_rn Tryd.f32 30 5 [(8, dex (cen [] [] 4 0 (edge_Sizes_x v10) (edge_Sizes_o v10) [46, 53] []))] [] 4 ⟨[(0, vc (tl e_Slice default a1)), (1, vc (tl e_Defect default a2)), (2, vc (tl e_Product default a3)), (9, vp 0 0), (10, vp 1 0), (11, vp 2 0), (12, vp 3 0), (15, vi (w64 (a4.X.B - a4.X.A))), (16, vo 4 0 1 v10.1.length), (17, vo 5 0 1 v10.2.length)], [(0, bx 35 [ci a4.X.A, ci a4.X.B, ci a4.Y.A, ci a4.Y.B]), (1, bx 37 [ci a5.Kerf, ci a5.Trim, ci a5.Pitch, ci a5.Step]), (2, bx 39 [ci a6.Chip, ci a6.Dust, ci a6.Fine]), (3, bx 64 [ci 0, ci 0, ci 0, .emp, .emp, .emp, .emp]), (4, ro 0 3 1 v10.1.length (rf e_i64 v10.1)), (5, ro 0 3 1 v10.2.length (rf e_i64 v10.2))]⟩ (o1 (callS (K := (kx E 145 0)) ⟨[(46, vc (tl e_Product default a3)), (53, vi (w64 (a4.Y.B - a4.Y.A)))], []⟩ (opAt (rg Tryd.f32 30) 8) [] [] 4 o0 rfl (edge_Sizes_ok a3 (w64 (a4.Y.B - a4.Y.A)) v10 h11) (.inl rfl) (by kernel_rfl))) (by kernel_rfl) (by kernel_rfl) ?_
    refine R_sq Tryd.f32 62 63 (by kernel_rfl) ?_
    refine R_rn Tryd.f32 62 6 [] [] 6 ⟨[(0, vc (tl e_Slice default a1)), (1, vc (tl e_Defect default a2)), (2, vc (tl e_Product default a3)), (9, vp 0 0), (10, vp 1 0), (11, vp 2 0), (12, vp 3 0), (15, vi (w64 (a4.X.B - a4.X.A))), (16, vo 4 0 1 v10.1.length), (17, vo 5 0 1 v10.2.length), (18, vp 6 0)], [(0, bx 35 [ci a4.X.A, ci a4.X.B, ci a4.Y.A, ci a4.Y.B]), (1, bx 37 [ci a5.Kerf, ci a5.Trim, ci a5.Pitch, ci a5.Step]), (2, bx 39 [ci a6.Chip, ci a6.Dust, ci a6.Fine]), (3, bx 64 [ci 0, ci 0, ci 0, .emp, .emp, .emp, .emp]), (4, ro 0 3 1 v10.1.length (rf e_i64 v10.1)), (5, ro 0 3 1 v10.2.length (rf e_i64 v10.2)), (6, bx 64 [ci (w64 (a4.X.B - a4.X.A)), ci a5.Kerf, ci 1, .own 4 0 1 v10.1.length, .emp, .emp, .emp])]⟩ o0 (by kernel_rfl) (by kernel_rfl) ?_
    refine R_sq Tryd.f32 126 127 (by kernel_rfl) ?_
    refine R_sq Tryd.f32 252 253 (by kernel_rfl) ?_
    refine R_rn Tryd.f32 252 7 [] [] 7 ⟨[(0, vc (tl e_Slice default a1)), (1, vc (tl e_Defect default a2)), (2, vc (tl e_Product default a3)), (9, vp 0 0), (10, vp 1 0), (11, vp 2 0), (12, vp 3 0), (15, vi (w64 (a4.X.B - a4.X.A))), (17, vo 5 0 1 v10.2.length), (18, vp 6 0), (62, vo 4 0 1 v10.1.length), (63, vi ((v10.1.length : Nat) : Int)), (64, vi 0)], [(0, bx 35 [ci a4.X.A, ci a4.X.B, ci a4.Y.A, ci a4.Y.B]), (1, bx 37 [ci a5.Kerf, ci a5.Trim, ci a5.Pitch, ci a5.Step]), (2, bx 39 [ci a6.Chip, ci a6.Dust, ci a6.Fine]), (3, bx 64 [ci 0, ci 0, ci 0, .emp, .emp, .emp, .emp]), (4, ro 0 3 1 v10.1.length (rf e_i64 v10.1)), (5, ro 0 3 1 v10.2.length (rf e_i64 v10.2)), (6, bx 64 [ci (w64 (a4.X.B - a4.X.A)), ci a5.Kerf, ci 1, .own 4 0 1 v10.1.length, .emp, .emp, .emp])]⟩ o0 (by kernel_rfl) (by kernel_rfl) ?_
    refine H_fin [.ownB 6 4 7 25 1 (rf (e_lst e_i64) ([] : List (List Int)))] ⟨[(0, vc (tl e_Slice default a1)), (1, vc (tl e_Defect default a2)), (2, vc (tl e_Product default a3)), (9, vp 0 0), (10, vp 1 0), (11, vp 2 0), (12, vp 3 0), (15, vi (w64 (a4.X.B - a4.X.A))), (17, vo 5 0 1 v10.2.length), (18, vp 6 0), (62, vo 4 0 1 v10.1.length), (63, vi ((v10.1.length : Nat) : Int)), (64, vi 0)], [(0, bx 35 [ci a4.X.A, ci a4.X.B, ci a4.Y.A, ci a4.Y.B]), (1, bx 37 [ci a5.Kerf, ci a5.Trim, ci a5.Pitch, ci a5.Step]), (2, bx 39 [ci a6.Chip, ci a6.Dust, ci a6.Fine]), (3, bx 64 [ci 0, ci 0, ci 0, .emp, .emp, .emp, .emp]), (4, ro 0 3 1 v10.1.length (rf e_i64 v10.1)), (5, ro 0 3 1 v10.2.length (rf e_i64 v10.2)), (6, bx 64 [ci (w64 (a4.X.B - a4.X.A)), ci a5.Kerf, ci 1, .own 4 0 1 v10.1.length, .own 7 0 1 0, .emp, .emp]), (7, ro 0 25 1 0 (rf (e_lst e_i64) ([] : List (List Int))))]⟩ o0 (by kernel_rfl) ?_
    obtain ⟨o34, h35, hm⟩ := bind_s hm
    refine R_loop0 (nd Tryd.f32 1012) 0 (by kernel_rfl) FUEL (fun o => edge_Line_L1_T a1 a4 a5 a6 v10 o) o34 (HL_enter (edge_Line_L1_S a1 a2 a3 a4 a5 a6 v10 0 ([] : List (List Int)) 0) (by kernel_rfl) (by kernel_rfl) (edge_Line_L1_ok E a1 a2 a3 a4 a5 a6 v10 FUEL 0 ([] : List (List Int)) 0 o34 rfl h35)) ?_
    refine R_sq Tryd.f32 254 255 (by kernel_rfl) ?_
    obtain ⟨v36, h37, hm⟩ := bind_s hm
    refine R_rn Tryd.f32 254 20 [(1, dex (cen [] [] 8 0 (solid_Length_x v36) (solid_Length_o v36) [110] []))] [] 8 ⟨[(0, vc (tl e_Slice default a1)), (9, vp 0 0), (11, vp 2 0), (12, vp 3 0), (15, vi (w64 (a4.X.B - a4.X.A))), (18, vp 6 0), (24, vp 8 0)], [(0, bx 35 [ci a4.X.A, ci a4.X.B, ci a4.Y.A, ci a4.Y.B]), (2, bx 39 [ci a6.Chip, ci a6.Dust, ci a6.Fine]), (3, bx 64 [ci 0, ci 0, ci 0, .emp, .emp, .emp, .emp]), (4, ro 0 3 1 v10.1.length (rf e_i64 v10.1)), (6, bx 64 [ci (w64 (a4.X.B - a4.X.A)), ci a5.Kerf, ci 1, .own 4 0 1 v10.1.length, .own 7 0 1 o34.length, .emp, .emp]), (7, ro 0 25 1 o34.length (rf (e_lst e_i64) o34)), (8, bx 33 [ci 0, ci v36])]⟩ (o1 (callS (K := (kx E 145 0)) ⟨[(110, vc (tl e_Slice default a1))], []⟩ (opAt (rg Tryd.f32 254) 1) [] [] 8 o0 rfl (solid_Length_ok a1 v36 h37) (.inl rfl) (by kernel_rfl))) (by kernel_rfl) (by kernel_rfl) ?_
    refine R_sq Tryd.f32 510 511 (by kernel_rfl) ?_
    refine R_sq Tryd.f32 1020 1021 (by kernel_rfl) ?_
    refine R_rn Tryd.f32 1020 21 [] [] 9 ⟨[(0, vc (tl e_Slice default a1)), (9, vp 0 0), (11, vp 2 0), (12, vp 3 0), (18, vp 6 0), (24, vp 8 0), (113, vi (w64 (a4.X.B - a4.X.A))), (114, vi 0)], [(0, bx 35 [ci a4.X.A, ci a4.X.B, ci a4.Y.A, ci a4.Y.B]), (2, bx 39 [ci a6.Chip, ci a6.Dust, ci a6.Fine]), (3, bx 64 [ci 0, ci 0, ci 0, .emp, .emp, .emp, .emp]), (4, ro 0 3 1 v10.1.length (rf e_i64 v10.1)), (6, bx 64 [ci (w64 (a4.X.B - a4.X.A)), ci a5.Kerf, ci 1, .own 4 0 1 v10.1.length, .own 7 0 1 o34.length, .emp, .emp]), (7, ro 0 25 1 o34.length (rf (e_lst e_i64) o34)), (8, bx 33 [ci 0, ci v36])]⟩ o0 (by kernel_rfl) (by kernel_rfl) ?_
    refine H_fin [.ownB 6 5 9 3 1 (rf e_i64 ([] : List Int))] ⟨[(0, vc (tl e_Slice default a1)), (9, vp 0 0), (11, vp 2 0), (12, vp 3 0), (18, vp 6 0), (24, vp 8 0), (113, vi (w64 (a4.X.B - a4.X.A))), (114, vi 0)], [(0, bx 35 [ci a4.X.A, ci a4.X.B, ci a4.Y.A, ci a4.Y.B]), (2, bx 39 [ci a6.Chip, ci a6.Dust, ci a6.Fine]), (3, bx 64 [ci 0, ci 0, ci 0, .emp, .emp, .emp, .emp]), (4, ro 0 3 1 v10.1.length (rf e_i64 v10.1)), (6, bx 64 [ci (w64 (a4.X.B - a4.X.A)), ci a5.Kerf, ci 1, .own 4 0 1 v10.1.length, .own 7 0 1 o34.length, .own 9 0 1 0, .emp]), (7, ro 0 25 1 o34.length (rf (e_lst e_i64) o34)), (8, bx 33 [ci 0, ci v36]), (9, ro 0 3 1 0 (rf e_i64 ([] : List Int)))]⟩ o0 (by kernel_rfl) ?_
    refine H_fin [.ownB 6 6 10 3 1 (rf e_i64 ([] : List Int))] ⟨[(0, vc (tl e_Slice default a1)), (9, vp 0 0), (11, vp 2 0), (12, vp 3 0), (18, vp 6 0), (24, vp 8 0), (113, vi (w64 (a4.X.B - a4.X.A))), (114, vi 0)], [(0, bx 35 [ci a4.X.A, ci a4.X.B, ci a4.Y.A, ci a4.Y.B]), (2, bx 39 [ci a6.Chip, ci a6.Dust, ci a6.Fine]), (3, bx 64 [ci 0, ci 0, ci 0, .emp, .emp, .emp, .emp]), (4, ro 0 3 1 v10.1.length (rf e_i64 v10.1)), (6, bx 64 [ci (w64 (a4.X.B - a4.X.A)), ci a5.Kerf, ci 1, .own 4 0 1 v10.1.length, .own 7 0 1 o34.length, .own 9 0 1 0, .own 10 0 1 0]), (7, ro 0 25 1 o34.length (rf (e_lst e_i64) o34)), (8, bx 33 [ci 0, ci v36]), (9, ro 0 3 1 0 (rf e_i64 ([] : List Int))), (10, ro 0 3 1 0 (rf e_i64 ([] : List Int)))]⟩ o0 (by kernel_rfl) ?_
    obtain ⟨o50, h51, hm⟩ := bind_s hm
    refine R_loop0 (nd Tryd.f32 4084) 4 (by kernel_rfl) FUEL (fun o => edge_Line_L4_T a4 a5 v10 o34 o.1 o.2) o50 (HL_enter (edge_Line_L4_S a1 a4 a5 a6 v10 o34 v36 0 ([] : List Int) 0 ([] : List Int) 0) (by kernel_rfl) (by kernel_rfl) (edge_Line_L4_ok E a1 a4 a5 a6 v10 o34 v36 FUEL 0 ([] : List Int) 0 ([] : List Int) 0 o50 rfl rfl h51)) ?_
    refine R_sq Tryd.f32 1022 1023 (by kernel_rfl) ?_
    refine R_rn Tryd.f32 1022 28 [] [] 11 ⟨[(12, vp 3 0), (13, vi 0)], [(3, bx 64 [ci (w64 (a4.X.B - a4.X.A)), ci a5.Kerf, ci 1, .own 4 0 1 v10.1.length, .own 7 0 1 o34.length, .own 9 0 1 o50.1.length, .own 10 0 1 o50.2.length]), (4, ro 0 3 1 v10.1.length (rf e_i64 v10.1)), (7, ro 0 25 1 o34.length (rf (e_lst e_i64) o34)), (9, ro 0 3 1 o50.1.length (rf e_i64 o50.1)), (10, ro 0 3 1 o50.2.length (rf e_i64 o50.2))]⟩ o0 (by kernel_rfl) (by kernel_rfl) ?_
    obtain rfl := Option.some.inj hm
    refine H_swap 4 0 (by kernel_rfl) ?_
    refine H_swap 7 1 (by kernel_rfl) ?_
    refine H_swap 9 2 (by kernel_rfl) ?_
    refine H_swap 10 3 (by kernel_rfl) ?_
    refine R_ret (by kernel_rfl) ?_
    exact ret_mk (by kernel_rfl) (by kernel_rfl)

end Saw
end Go.SL

namespace Go.SL
namespace Saw
open Go.Proofs
set_option maxHeartbeats 4000000

def slices_Clone_SNode_x (r : List Node) : V := vo 0 0 2 r.length

def slices_Clone_SNode_o (r : List Node) : List (Nat × (Nat × O)) := [(0, ro 0 80 2 r.length (rf e_Node r))]

theorem slices_Clone_SNode_f (r : List Node) : Frozen (slices_Clone_SNode_o r) := by
  intro i k o h
  unfold slices_Clone_SNode_o at h
  rw [look_cons] at h
  split at h
  · cases h; exact fun _ _ => rfl
  · cases h

set_option maxRecDepth 100000 in
theorem slices_Clone_SNode_ok (a1 : List Node) (r : List Node) (hm : slices_Clone_SNode a1 = some r) : CtX Tryd.prog globs 87 0 0 [.one (tl e_Node default a1)] [] (slices_Clone_SNode_x r) (slices_Clone_SNode_o r) := by
  unfold slices_Clone_SNode at hm
  obtain ⟨g1, hm⟩ := bif_n hm
  obtain rfl := Option.some.inj hm
  refine CtX_of_E (fn := Tryd.f87) (c := nd Tryd.f87 1) (nt := 8) (by kernel_rfl) (by kernel_rfl) (by kernel_rfl) (by kernel_rfl) fun E => ?_
  refine R_sq Tryd.f87 2 3 (by kernel_rfl) ?_
  refine R_rn Tryd.f87 2 0 [] [] 0 ⟨[(0, vc (tl e_Node default a1))], []⟩ o0 (by kernel_rfl) (by kernel_rfl) ?_
  refine R_sq Tryd.f87 6 7 (by kernel_rfl) ?_
  refine R_sq Tryd.f87 12 13 (by kernel_rfl) ?_
  refine R_nil Tryd.f87 12 1 1 ⟨[(0, vc (tl e_Node default a1)), (3, vc (tl e_Node default a1))], []⟩ 45 45 80 4 (.tmp 3) a1.length (rf e_Node a1) (by kernel_rfl) (by kernel_rfl) (by kernel_rfl) (fun b hb => ?_)
  refine R_cn Tryd.f87 (.tmp 4) 26 27 (by kernel_rfl) b (by kernel_rfl) (fun b6 => ?_) (fun b6 => ?_)
  · obtain rfl : a1 = [] := List.eq_nil_of_length_eq_zero (hb b6)
    refine R_sq Tryd.f87 52 53 (by kernel_rfl) ?_
    refine R_rn Tryd.f87 52 2 [] [.own 2 0 80 2 (rf e_Node ([] : List Node))] 0 ⟨[(2, vo 0 0 2 0)], [(0, ro 0 80 2 0 (rf e_Node ([] : List Node)))]⟩ o0 (by kernel_rfl) (by kernel_rfl) ?_
    refine R_ret (by kernel_rfl) ?_
    exact ret_mk (by kernel_rfl) (by kernel_rfl)
  · refine R_skip (by kernel_rfl) ?_
    refine R_sq Tryd.f87 14 15 (by kernel_rfl) ?_
    refine R_rn Tryd.f87 14 3 [(0, drw 0 0 (rf e_Node ([] : List Node))), (2, drw 0 1 (rf e_Node ([] ++ a1)))] [.len 0 a1.length] 0 ⟨[(2, vo 0 1 2 a1.length)], [(0, ro 1 80 2 a1.length (rf e_Node ([] ++ a1)))]⟩ (o1 (And.intro (And.intro (litP e_Node default 2 (fun _ => rfl) ([] : List Node) 0 rfl) (apP e_Node default ([] : List Node) a1 0 a1.length 2 16 True trivial rfl rfl (fun _ => rfl) (by have := room_of g1; rw [Nat.zero_add]; exact this))) (And.intro (And.intro (Nat.zero_add a1.length) (Nat.zero_add a1.length)) (Nat.zero_add a1.length)))) (by kernel_rfl) (by kernel_rfl) ?_
    refine R_ret (by kernel_rfl) ?_
    exact ret_mk (by kernel_rfl) (by kernel_rfl)

end Saw
end Go.SL

namespace Go.SL
namespace Saw
open Go.Proofs
set_option maxHeartbeats 4000000

def edge_collect_s1_x (a1 : List (List Node)) (a2 : List Node) (r : (List (List Node)) × (List (List Node))) : V := vo 0 0 1 r.2.length

def edge_collect_s1_o (a1 : List (List Node)) (a2 : List Node) (r : (List (List Node)) × (List (List Node))) : List (Nat × (Nat × O)) := [(0, ro 0 45 1 r.2.length (rf (e_lst e_Node) r.2)), (1, ro 0 80 2 a2.length (rf e_Node a2))]

set_option maxRecDepth 100000 in
theorem edge_collect_s1_ok (a1 : List (List Node)) (a2 : List Node) (r : (List (List Node)) × (List (List Node))) (hm : edge_collect_s1 a1 a2 = some r) : CtX Tryd.prog globs 57 2 0 [.one (.own 0 0 1 a1.length), .one (.own 1 0 2 a2.length)] [(0, ro 0 45 1 a1.length (rf (e_lst e_Node) a1)), (1, ro 0 80 2 a2.length (rf e_Node a2))] (edge_collect_s1_x a1 a2 r) (edge_collect_s1_o a1 a2 r) := by
  unfold edge_collect_s1 at hm
  refine CtX_of_E (fn := Tryd.f57) (c := nd Tryd.f57 1) (nt := 10) (by kernel_rfl) (by kernel_rfl) (by kernel_rfl) (by kernel_rfl) fun E => ?_
  refine R_sq Tryd.f57 2 3 (by kernel_rfl) ?_
  refine R_rn Tryd.f57 2 0 [] [] 2 ⟨[(0, vo 0 0 1 a1.length), (1, vo 1 0 2 a2.length)], [(0, ro 0 45 1 a1.length (rf (e_lst e_Node) a1)), (1, ro 0 80 2 a2.length (rf e_Node a2))]⟩ o0 (by kernel_rfl) (by kernel_rfl) ?_
  refine R_sq Tryd.f57 6 7 (by kernel_rfl) ?_
  obtain ⟨v3, h4, hm⟩ := bind_s hm
  obtain ⟨g5, hm⟩ := bif_n hm
  refine R_rn Tryd.f57 6 1 [(2, dex (cen [] [] 2 0 (slices_Clone_SNode_x v3) (slices_Clone_SNode_o v3) [6] [1])), (3, dpr [.frz 2] (drw 3 0 (rf (e_lst e_Node) ([v3] : List (List Node))))), (4, drw 0 1 (rf (e_lst e_Node) (a1 ++ ([v3] : List (List Node)))))] [] 2 ⟨[(4, vo 0 1 1 (a1.length + 1))], [(0, ro 1 45 1 (a1.length + 1) (rf (e_lst e_Node) (a1 ++ ([v3] : List (List Node))))), (1, ro 0 80 2 a2.length (rf e_Node a2))]⟩ (o1 (And.intro (callS (K := (kx E 10 0)) (b := false) ⟨[(6, vo 1 0 2 a2.length)], [(1, ro 0 80 2 a2.length (rf e_Node a2))]⟩ (opAt (rg Tryd.f57 6) 2) [] [] 2 (o1 (Nat.le_refl a2.length)) rfl (slices_Clone_SNode_ok a2 v3 h4) (.inr ⟨(by kernel_rfl), slices_Clone_SNode_f v3⟩) (by kernel_rfl)) (And.intro (Nat.le_refl v3.length) (And.intro (litP (e_lst e_Node) default 1 (fun _ => rfl) ([v3] : List (List Node)) 1 rfl) (apP (e_lst e_Node) default a1 ([v3] : List (List Node)) a1.length 1 1 24 (1 ≤ 1) (Nat.le_refl _) rfl rfl (fun _ => rfl) (room_of g5)))))) (by kernel_rfl) (by kernel_rfl) ?_
  refine H_fin [.len 0 ((a1 ++ ([v3] : List (List Node))).length)] ⟨[(4, vo 0 1 1 ((a1 ++ ([v3] : List (List Node))).length))], [(0, ro 1 45 1 ((a1 ++ ([v3] : List (List Node))).length) (rf (e_lst e_Node) (a1 ++ ([v3] : List (List Node))))), (1, ro 0 80 2 a2.length (rf e_Node a2))]⟩ (o1 (And.intro (Eq.symm (show (a1 ++ ([v3] : List (List Node))).length = (a1.length + 1) from (len_app rfl rfl))) (Eq.symm (show (a1 ++ ([v3] : List (List Node))).length = (a1.length + 1) from (len_app rfl rfl))))) (by kernel_rfl) ?_
  obtain rfl := Option.some.inj hm
  refine R_ret (by kernel_rfl) ?_
  exact ret_mk (by kernel_rfl) (by kernel_rfl)

end Saw
end Go.SL
