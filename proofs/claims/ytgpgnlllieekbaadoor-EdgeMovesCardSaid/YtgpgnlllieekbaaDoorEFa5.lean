import Derived.Test.YtgpgnlllieekbaaDoorEBase
import Derived.Test.YtgpgnlllieekbaaDoorEFa1
import Derived.Test.YtgpgnlllieekbaaDoorEFa4
import Derived.Test.YtgpgnlllieekbaaDoorEFa2
set_option linter.unusedVariables false
set_option linter.unusedSimpArgs false
namespace Go.SL
namespace Saw
open Go.Proofs
set_option maxHeartbeats 4000000

def edge_Line_x (r : Line × Int) : V := .tup [.agg [ci r.1.Len, ci r.1.Kerf, ci r.1.Pitch, .own 0 0 1 r.1.Sizes.length, .own 1 0 1 r.1.Gain.length, .own 2 0 1 r.1.Chip.length, .own 3 0 1 r.1.Dust.length], .one (ci r.2)]

def edge_Line_o (r : Line × Int) : List (Nat × (Nat × O)) := [(0, ro 0 3 1 r.1.Sizes.length (rf e_i64 r.1.Sizes)), (1, ro 0 25 1 r.1.Gain.length (rf (e_lst e_i64) r.1.Gain)), (2, ro 0 3 1 r.1.Chip.length (rf e_i64 r.1.Chip)), (3, ro 0 3 1 r.1.Dust.length (rf e_i64 r.1.Dust))]

def edge_Line_k3_S (a1 : List Slice) (a2 : List Defect) (a3 : List Product) (a4 : Rect) (a5 : Saw) (a6 : Rates) (v10 : (List Int) × (List Int)) (x12 : Int) (l13 : List (List Int)) (l16 : List Int) (x17 : Int) (x27 : Int) : St :=
 ⟨[(0, vc (tl e_Slice default a1)), (1, vc (tl e_Defect default a2)), (2, vc (tl e_Product default a3)), (9, vp 0 0), (10, vp 1 0), (11, vp 2 0), (12, vp 3 0), (15, vi (w64 (a4.X.B - a4.X.A))), (17, vo 5 0 1 v10.2.length), (18, vp 6 0), (19, vi x12), (20, vi (v10.1.getD x12.toNat default)), (21, vo 8 0 1 l16.length), (22, vi x17), (23, vi x27), (62, vo 4 0 1 v10.1.length), (63, vi ((v10.1.length : Nat) : Int)), (64, vi x12)], [(0, bx 35 (e_Rect a4)), (1, bx 37 (e_Saw a5)), (2, bx 39 (e_Rates a6)), (3, bx 64 [ci 0, ci 0, ci 0, .emp, .emp, .emp, .emp]), (4, ro 0 3 1 v10.1.length (rf e_i64 v10.1)), (5, ro 0 3 1 v10.2.length (rf e_i64 v10.2)), (6, bx 64 [ci (w64 (a4.X.B - a4.X.A)), ci a5.Kerf, ci 1, .own 4 0 1 v10.1.length, .own 7 0 1 l13.length, .emp, .emp]), (7, ro 0 25 1 l13.length (rf (e_lst e_i64) l13)), (8, ro 0 3 1 l16.length (rf e_i64 l16))]⟩

def edge_Line_L2_S (a1 : List Slice) (a2 : List Defect) (a3 : List Product) (a4 : Rect) (a5 : Saw) (a6 : Rates) (v10 : (List Int) × (List Int)) (x12 : Int) (l13 : List (List Int)) (l16 : List Int) (l16n : Nat) (x17 : Int) : St :=
 ⟨[(0, vc (tl e_Slice default a1)), (1, vc (tl e_Defect default a2)), (2, vc (tl e_Product default a3)), (9, vp 0 0), (10, vp 1 0), (11, vp 2 0), (12, vp 3 0), (15, vi (w64 (a4.X.B - a4.X.A))), (17, vo 5 0 1 v10.2.length), (18, vp 6 0), (19, vi x12), (20, vi (v10.1.getD x12.toNat default)), (21, vo 8 0 1 l16n), (22, vi x17), (62, vo 4 0 1 v10.1.length), (63, vi ((v10.1.length : Nat) : Int)), (64, vi x12)], [(0, bx 35 (e_Rect a4)), (1, bx 37 (e_Saw a5)), (2, bx 39 (e_Rates a6)), (3, bx 64 [ci 0, ci 0, ci 0, .emp, .emp, .emp, .emp]), (4, ro 0 3 1 v10.1.length (rf e_i64 v10.1)), (5, ro 0 3 1 v10.2.length (rf e_i64 v10.2)), (6, bx 64 [ci (w64 (a4.X.B - a4.X.A)), ci a5.Kerf, ci 1, .own 4 0 1 v10.1.length, .own 7 0 1 l13.length, .emp, .emp]), (7, ro 0 25 1 l13.length (rf (e_lst e_i64) l13)), (8, ro 0 3 1 l16n (rf e_i64 l16))]⟩

def edge_Line_L2_T (a1 : List Slice) (a2 : List Defect) (a3 : List Product) (a4 : Rect) (a5 : Saw) (a6 : Rates) (v10 : (List Int) × (List Int)) (x12 : Int) (l13 : List (List Int)) (l29 : List Int) : St :=
 ⟨[(0, vc (tl e_Slice default a1)), (1, vc (tl e_Defect default a2)), (2, vc (tl e_Product default a3)), (9, vp 0 0), (10, vp 1 0), (11, vp 2 0), (12, vp 3 0), (15, vi (w64 (a4.X.B - a4.X.A))), (17, vo 5 0 1 v10.2.length), (18, vp 6 0), (21, vo 8 0 1 l29.length), (62, vo 4 0 1 v10.1.length), (63, vi ((v10.1.length : Nat) : Int)), (64, vi x12)], [(0, bx 35 (e_Rect a4)), (1, bx 37 (e_Saw a5)), (2, bx 39 (e_Rates a6)), (3, bx 64 [ci 0, ci 0, ci 0, .emp, .emp, .emp, .emp]), (4, ro 0 3 1 v10.1.length (rf e_i64 v10.1)), (5, ro 0 3 1 v10.2.length (rf e_i64 v10.2)), (6, bx 64 [ci (w64 (a4.X.B - a4.X.A)), ci a5.Kerf, ci 1, .own 4 0 1 v10.1.length, .own 7 0 1 l13.length, .emp, .emp]), (7, ro 0 25 1 l13.length (rf (e_lst e_i64) l13)), (8, ro 0 3 1 l29.length (rf e_i64 l29))]⟩

def edge_Line_L1_S (a1 : List Slice) (a2 : List Defect) (a3 : List Product) (a4 : Rect) (a5 : Saw) (a6 : Rates) (v10 : (List Int) × (List Int)) (x12 : Int) (l13 : List (List Int)) (l13n : Nat) : St :=
 ⟨[(0, vc (tl e_Slice default a1)), (1, vc (tl e_Defect default a2)), (2, vc (tl e_Product default a3)), (9, vp 0 0), (10, vp 1 0), (11, vp 2 0), (12, vp 3 0), (15, vi (w64 (a4.X.B - a4.X.A))), (17, vo 5 0 1 v10.2.length), (18, vp 6 0), (62, vo 4 0 1 v10.1.length), (63, vi ((v10.1.length : Nat) : Int)), (64, vi x12)], [(0, bx 35 (e_Rect a4)), (1, bx 37 (e_Saw a5)), (2, bx 39 (e_Rates a6)), (3, bx 64 [ci 0, ci 0, ci 0, .emp, .emp, .emp, .emp]), (4, ro 0 3 1 v10.1.length (rf e_i64 v10.1)), (5, ro 0 3 1 v10.2.length (rf e_i64 v10.2)), (6, bx 64 [ci (w64 (a4.X.B - a4.X.A)), ci a5.Kerf, ci 1, .own 4 0 1 v10.1.length, .own 7 0 1 l13n, .emp, .emp]), (7, ro 0 25 1 l13n (rf (e_lst e_i64) l13))]⟩

def edge_Line_L1_T (a1 : List Slice) (a4 : Rect) (a5 : Saw) (a6 : Rates) (v10 : (List Int) × (List Int)) (l33 : List (List Int)) : St :=
 ⟨[(0, vc (tl e_Slice default a1)), (9, vp 0 0), (11, vp 2 0), (12, vp 3 0), (15, vi (w64 (a4.X.B - a4.X.A))), (18, vp 6 0)], [(0, bx 35 (e_Rect a4)), (2, bx 39 (e_Rates a6)), (3, bx 64 [ci 0, ci 0, ci 0, .emp, .emp, .emp, .emp]), (4, ro 0 3 1 v10.1.length (rf e_i64 v10.1)), (6, bx 64 [ci (w64 (a4.X.B - a4.X.A)), ci a5.Kerf, ci 1, .own 4 0 1 v10.1.length, .own 7 0 1 l33.length, .emp, .emp]), (7, ro 0 25 1 l33.length (rf (e_lst e_i64) l33))]⟩

def edge_Line_L4_S (a1 : List Slice) (a4 : Rect) (a5 : Saw) (a6 : Rates) (v10 : (List Int) × (List Int)) (o34 : (List (List Int))) (v36 : Int) (x38 : Int) (l39 : List Int) (l39n : Nat) (l40 : List Int) (l40n : Nat) : St :=
 ⟨[(0, vc (tl e_Slice default a1)), (9, vp 0 0), (11, vp 2 0), (12, vp 3 0), (18, vp 6 0), (24, vp 8 0), (113, vi (w64 (a4.X.B - a4.X.A))), (114, vi x38)], [(0, bx 35 (e_Rect a4)), (2, bx 39 (e_Rates a6)), (3, bx 64 [ci 0, ci 0, ci 0, .emp, .emp, .emp, .emp]), (4, ro 0 3 1 v10.1.length (rf e_i64 v10.1)), (6, bx 64 [ci (w64 (a4.X.B - a4.X.A)), ci a5.Kerf, ci 1, .own 4 0 1 v10.1.length, .own 7 0 1 o34.length, .own 9 0 1 l39n, .own 10 0 1 l40n]), (7, ro 0 25 1 o34.length (rf (e_lst e_i64) o34)), (8, bx 33 [ci 0, ci v36]), (9, ro 0 3 1 l39n (rf e_i64 l39)), (10, ro 0 3 1 l40n (rf e_i64 l40))]⟩

def edge_Line_L4_T (a4 : Rect) (a5 : Saw) (v10 : (List Int) × (List Int)) (o34 : (List (List Int))) (l48 : List Int) (l49 : List Int) : St :=
 ⟨[(12, vp 3 0), (18, vp 6 0)], [(3, bx 64 [ci 0, ci 0, ci 0, .emp, .emp, .emp, .emp]), (4, ro 0 3 1 v10.1.length (rf e_i64 v10.1)), (6, bx 64 [ci (w64 (a4.X.B - a4.X.A)), ci a5.Kerf, ci 1, .own 4 0 1 v10.1.length, .own 7 0 1 o34.length, .own 9 0 1 l48.length, .own 10 0 1 l49.length]), (7, ro 0 25 1 o34.length (rf (e_lst e_i64) o34)), (9, ro 0 3 1 l48.length (rf e_i64 l48)), (10, ro 0 3 1 l49.length (rf e_i64 l49))]⟩

set_option maxRecDepth 100000 in
theorem edge_Line_L2_ok (E : Env 0) (a1 : List Slice) (a2 : List Defect) (a3 : List Product) (a4 : Rect) (a5 : Saw) (a6 : Rates) (v10 : (List Int) × (List Int)) (x12 : Int) (l13 : List (List Int)) : ∀ (n : Nat) (l16 : List Int) (l16n : Nat) (x17 : Int) (res : (List Int)), l16.length = l16n → edge_Line_L2 a1 a2 a3 a4 a5 a6 v10 x12 n l16 x17 = some res → HL (kx E 145 0) (nd Tryd.f32 1037108) (loopQ0 2 (fun o => edge_Line_L2_T a1 a2 a3 a4 a5 a6 v10 x12 l13 o) res) n (edge_Line_L2_S a1 a2 a3 a4 a5 a6 v10 x12 l13 l16 l16n x17) := by
 intro n
 induction n with
 | zero =>
  intro l16 l16n x17 res hl0 hm
  cases hm
 | succ n ih =>
  intro l16 l16n x17 res hl0 hm
  subst hl0
  refine HL_succ ?_
  refine q_sq ?_
  refine q_sq ?_
  refine q_vu [] 9 [] [(73, vb (decide ((w64 (x17 + (v10.1.getD x12.toNat default))) ≤ (w64 (a4.X.B - a4.X.A)))))] [] [] ?_
  refine q_cn (decide ((w64 (x17 + (v10.1.getD x12.toNat default))) ≤ (w64 (a4.X.B - a4.X.A)))) (fun b18 => ?_) (fun b18 => ?_)
  ·replace hm := bif_t b18 hm
   refine q_sk ?_
   refine q_sq ?_
   refine q_bk 3 ?_
   refine q_sq ?_
   refine q_vu [] 9 [73] [(23, vi (-1))] [] [] ?_
   refine q_jn (ι := Int) (fun p => edge_Line_k3_S a1 a2 a3 a4 a5 a6 v10 x12 l13 l16 x17 p) (fun p => edge_Line_k3 l16 x17 (edge_Line_L2 a1 a2 a3 a4 a5 a6 v10 x12 n) p = some res) ?_ ?_
   ·rintro x27 hm
    show H _ (edge_Line_k3_S a1 a2 a3 a4 a5 a6 v10 x12 l13 l16 x17 x27) _ _
    obtain ⟨g28, hm⟩ := bif_n hm
    refine q_vu [qd 2 (drw 9 0 (rf e_i64 ([x27] : List Int))) (litP e_i64 default 1 (fun _ => rfl) ([x27] : List Int) 1 rfl), qd 3 (drw 8 1 (rf e_i64 (l16 ++ ([x27] : List Int)))) (apP e_i64 default l16 ([x27] : List Int) l16.length 1 1 8 (1 ≤ 1) (Nat.le_refl _) rfl rfl (fun _ => rfl) (room_of g28))] 9 [21, 23] [(21, vo 8 1 1 (l16.length + 1))] [8] [(8, ro 1 3 1 (l16.length + 1) (rf e_i64 (l16 ++ ([x27] : List Int))))] ?_
    refine q_vu [] 10 [22] [(22, vi (w64 (x17 + 1)))] [] [] ?_
    exact q_hl (edge_Line_L2_S a1 a2 a3 a4 a5 a6 v10 x12 l13 (l16 ++ ([x27] : List Int)) (l16.length + 1) (w64 (x17 + 1))) (ih (l16 ++ ([x27] : List Int)) (l16.length + 1) (w64 (x17 + 1)) _ (len_app rfl rfl) hm)
   ·refine q_sq ?_
    obtain ⟨g19, hm⟩ := bif_n hm
    refine q_vu [qd 3 (Dir.none) (nz_of g19)] 9 [] [(80, vb ((Int.tmod x17 a5.Pitch) == 0))] [] [] ?_
    refine q_cn ((Int.tmod x17 a5.Pitch) == 0) (fun b20 => ?_) (fun b20 => ?_)
    ·replace hm := bif_t b20 hm
     obtain ⟨g21, hm⟩ := bif_n hm
     obtain ⟨g22, hm⟩ := bif_n hm
     obtain ⟨v23, h24, hm⟩ := bind_s hm
     obtain ⟨v25, h26, hm⟩ := bind_s hm
     refine q_du [qd 5 (Dir.none) (inb_of g21), qd 6 (Dir.none) (toNat_lt (inb_of g21)), qd 7 (Dir.none) (inb_of g22), qc 14 [90, 91, 94] 9 (edge_part_ok a4 x17 (w64 (x17 + (v10.1.getD x12.toNat default))) v23 h24), qc 17 [81, 82, 89, 95, 96, 97] 9 (edge_gain_ok a1 a2 (a3.getD (v10.2.getD x12.toNat default).toNat default) v23 a5 a6 v25 h26)] [0, 0, 0, 0, 0, 24, 56, 124, 252, 0, 0, 0, 0, 6144, 15872, 0, 0, 131071, 262143] 9 [23, 80] [(23, vi v25)] [] [] ?_
     exact q_J (v25) hm
    ·replace hm := bif_f b20 hm
     refine q_sk ?_
     exact q_J ((-1)) hm
  ·replace hm := bif_f b18 hm
   refine q_ex 2 ?_
   obtain rfl := Option.some.inj hm
   exact L0_mk (by kernel_rfl) (by kernel_rfl)

set_option maxRecDepth 100000 in
theorem edge_Line_L1_ok (E : Env 0) (a1 : List Slice) (a2 : List Defect) (a3 : List Product) (a4 : Rect) (a5 : Saw) (a6 : Rates) (v10 : (List Int) × (List Int)) : ∀ (n : Nat) (x12 : Int) (l13 : List (List Int)) (l13n : Nat) (res : (List (List Int))), l13.length = l13n → edge_Line_L1 a1 a2 a3 a4 a5 a6 v10 n x12 l13 = some res → HL (kx E 145 0) (nd Tryd.f32 1012) (loopQ0 0 (fun o => edge_Line_L1_T a1 a4 a5 a6 v10 o) res) n (edge_Line_L1_S a1 a2 a3 a4 a5 a6 v10 x12 l13 l13n) := by
 intro n
 induction n with
 | zero =>
  intro x12 l13 l13n res hl0 hm
  cases hm
 | succ n ih =>
  intro x12 l13 l13n res hl0 hm
  subst hl0
  refine HL_succ ?_
  refine q_sq ?_
  refine q_vu [] 8 [] [(65, vb (decide (x12 < ((v10.1.length : Nat) : Int))))] [] [] ?_
  refine q_sq ?_
  refine q_cn (decide (x12 < ((v10.1.length : Nat) : Int))) (fun b14 => ?_) (fun b14 => ?_)
  ·replace hm := bif_t b14 hm
   refine q_sk ?_
   refine q_sq ?_
   refine q_bk 1 ?_
   refine q_sq ?_
   obtain ⟨g15, hm⟩ := bif_n hm
   refine q_vu [qd 1 (Dir.none) (inb_of g15), qd 2 (Dir.none) (toNat_lt (inb_of g15))] 8 [65] [(19, vi x12), (20, vi (v10.1.getD x12.toNat default))] [] [] ?_
   refine q_sq ?_
   refine q_vu [] 8 [] [(21, vc (.emp))] [] [] ?_
   refine q_sq ?_
   refine q_sq ?_
   refine q_vu [] 8 [] [(22, vi 0)] [] [] ?_
   refine q_fn [.own 21 8 3 1 (rf e_i64 ([] : List Int))] ⟨[(0, vc (tl e_Slice default a1)), (1, vc (tl e_Defect default a2)), (2, vc (tl e_Product default a3)), (9, vp 0 0), (10, vp 1 0), (11, vp 2 0), (12, vp 3 0), (15, vi (w64 (a4.X.B - a4.X.A))), (17, vo 5 0 1 v10.2.length), (18, vp 6 0), (19, vi x12), (20, vi (v10.1.getD x12.toNat default)), (21, vo 8 0 1 0), (22, vi 0), (62, vo 4 0 1 v10.1.length), (63, vi ((v10.1.length : Nat) : Int)), (64, vi x12)], [(0, bx 35 (e_Rect a4)), (1, bx 37 (e_Saw a5)), (2, bx 39 (e_Rates a6)), (3, bx 64 [ci 0, ci 0, ci 0, .emp, .emp, .emp, .emp]), (4, ro 0 3 1 v10.1.length (rf e_i64 v10.1)), (5, ro 0 3 1 v10.2.length (rf e_i64 v10.2)), (6, bx 64 [ci (w64 (a4.X.B - a4.X.A)), ci a5.Kerf, ci 1, .own 4 0 1 v10.1.length, .own 7 0 1 l13.length, .emp, .emp]), (7, ro 0 25 1 l13.length (rf (e_lst e_i64) l13)), (8, ro 0 3 1 0 (rf e_i64 ([] : List Int)))]⟩ o0 ?_
   obtain ⟨o30, h31, hm⟩ := bind_s hm
   refine R_loop0 (nd Tryd.f32 1037108) 2 (by kernel_rfl) FUEL (fun o => edge_Line_L2_T a1 a2 a3 a4 a5 a6 v10 x12 l13 o) o30 (q_hl (edge_Line_L2_S a1 a2 a3 a4 a5 a6 v10 x12 l13 ([] : List Int) 0 0) (edge_Line_L2_ok E a1 a2 a3 a4 a5 a6 v10 x12 l13 FUEL ([] : List Int) 0 0 o30 rfl h31)) ?_
   obtain ⟨g32, hm⟩ := bif_n hm
   refine q_vu [qd 3 (dpr [.frz 8] (drw 9 0 (rf (e_lst e_i64) ([o30] : List (List Int))))) (And.intro (Nat.le_refl o30.length) (Nat.le_refl o30.length)), qd 3 (Dir.none) (litP (e_lst e_i64) default 1 (fun _ => rfl) ([o30] : List (List Int)) 1 rfl), qd 4 (drw 7 1 (rf (e_lst e_i64) (l13 ++ ([o30] : List (List Int))))) (apP (e_lst e_i64) default l13 ([o30] : List (List Int)) l13.length 1 1 24 (1 ≤ 1) (Nat.le_refl _) rfl rfl (fun _ => rfl) (room_of g32))] 9 [21] [] [6, 7, 8] [(6, bx 64 [ci (w64 (a4.X.B - a4.X.A)), ci a5.Kerf, ci 1, .own 4 0 1 v10.1.length, .own 7 1 1 (l13.length + 1), .emp, .emp]), (7, ro 1 25 1 (l13.length + 1) (rf (e_lst e_i64) (l13 ++ ([o30] : List (List Int)))))] ?_
   refine q_vu [] 10 [64] [(64, vi (w64 (x12 + 1)))] [] [] ?_
   exact q_hl (edge_Line_L1_S a1 a2 a3 a4 a5 a6 v10 (w64 (x12 + 1)) (l13 ++ ([o30] : List (List Int))) (l13.length + 1)) (ih (w64 (x12 + 1)) (l13 ++ ([o30] : List (List Int))) (l13.length + 1) _ (len_app rfl rfl) hm)
  ·replace hm := bif_f b14 hm
   refine q_ex 0 ?_
   obtain rfl := Option.some.inj hm
   exact L0_mk (by kernel_rfl) (by kernel_rfl)

set_option maxRecDepth 100000 in
theorem edge_Line_L4_ok (E : Env 0) (a1 : List Slice) (a4 : Rect) (a5 : Saw) (a6 : Rates) (v10 : (List Int) × (List Int)) (o34 : (List (List Int))) (v36 : Int) : ∀ (n : Nat) (x38 : Int) (l39 : List Int) (l39n : Nat) (l40 : List Int) (l40n : Nat) (res : (List Int) × (List Int)), l39.length = l39n → l40.length = l40n → edge_Line_L4 a1 a4 a6 v36 n x38 l39 l40 = some res → HL (kx E 145 0) (nd Tryd.f32 4084) (loopQ0 4 (fun o => edge_Line_L4_T a4 a5 v10 o34 o.1 o.2) res) n (edge_Line_L4_S a1 a4 a5 a6 v10 o34 v36 x38 l39 l39n l40 l40n) := by
 intro n
 induction n with
 | zero =>
  intro x38 l39 l39n l40 l40n res hl0 hl1 hm
  cases hm
 | succ n ih =>
  intro x38 l39 l39n l40 l40n res hl0 hl1 hm
  subst hl0
  subst hl1
  refine HL_succ ?_
  refine q_sq ?_
  refine q_vu [] 11 [] [(115, vb (decide (x38 < (w64 (a4.X.B - a4.X.A)))))] [] [] ?_
  refine q_sq ?_
  refine q_cn (decide (x38 < (w64 (a4.X.B - a4.X.A)))) (fun b41 => ?_) (fun b41 => ?_)
  ·replace hm := bif_t b41 hm
   refine q_sk ?_
   refine q_sq ?_
   refine q_bk 5 ?_
   refine q_sq ?_
   refine q_vu [] 11 [115] [(25, vi x38)] [] [] ?_
   refine q_sq ?_
   obtain ⟨v42, h43, hm⟩ := bind_s hm
   obtain ⟨v44, h45, hm⟩ := bind_s hm
   refine q_du [qc 5 [118, 119, 121] 11 (edge_part_ok a4 x38 (w64 (x38 + 1)) v42 h43), qc 7 [117, 122, 123] 11 (edge_volume_ok a1 v42 (Span.mk 0 v36) v44 h45)] [0, 0, 0, 0, 8, 30, 0, 127, 255] 11 [25] [(26, vi v44)] [] [] ?_
   refine q_sq ?_
   obtain ⟨g46, hm⟩ := bif_n hm
   refine q_vu [qd 6 (drw 11 0 (rf e_i64 ([w64 (a6.Chip * v44)] : List Int))) (litP e_i64 default 1 (fun _ => rfl) ([w64 (a6.Chip * v44)] : List Int) 1 rfl), qd 7 (drw 9 1 (rf e_i64 (l39 ++ ([w64 (a6.Chip * v44)] : List Int)))) (apP e_i64 default l39 ([w64 (a6.Chip * v44)] : List Int) l39.length 1 1 8 (1 ≤ 1) (Nat.le_refl _) rfl rfl (fun _ => rfl) (room_of g46))] 11 [] [] [6, 9] [(6, bx 64 [ci (w64 (a4.X.B - a4.X.A)), ci a5.Kerf, ci 1, .own 4 0 1 v10.1.length, .own 7 0 1 o34.length, .own 9 1 1 (l39.length + 1), .own 10 0 1 l40.length]), (9, ro 1 3 1 (l39.length + 1) (rf e_i64 (l39 ++ ([w64 (a6.Chip * v44)] : List Int))))] ?_
   obtain ⟨g47, hm⟩ := bif_n hm
   refine q_vu [qd 6 (drw 12 0 (rf e_i64 ([w64 (a6.Dust * v44)] : List Int))) (litP e_i64 default 1 (fun _ => rfl) ([w64 (a6.Dust * v44)] : List Int) 1 rfl), qd 7 (drw 10 1 (rf e_i64 (l40 ++ ([w64 (a6.Dust * v44)] : List Int)))) (apP e_i64 default l40 ([w64 (a6.Dust * v44)] : List Int) l40.length 1 1 8 (1 ≤ 1) (Nat.le_refl _) rfl rfl (fun _ => rfl) (room_of g47))] 12 [26] [] [6, 10] [(6, bx 64 [ci (w64 (a4.X.B - a4.X.A)), ci a5.Kerf, ci 1, .own 4 0 1 v10.1.length, .own 7 0 1 o34.length, .own 9 1 1 (l39.length + 1), .own 10 1 1 (l40.length + 1)]), (10, ro 1 3 1 (l40.length + 1) (rf e_i64 (l40 ++ ([w64 (a6.Dust * v44)] : List Int))))] ?_
   refine q_vu [] 13 [114] [(114, vi (w64 (x38 + 1)))] [] [] ?_
   exact q_hl (edge_Line_L4_S a1 a4 a5 a6 v10 o34 v36 (w64 (x38 + 1)) (l39 ++ ([w64 (a6.Chip * v44)] : List Int)) (l39.length + 1) (l40 ++ ([w64 (a6.Dust * v44)] : List Int)) (l40.length + 1)) (ih (w64 (x38 + 1)) (l39 ++ ([w64 (a6.Chip * v44)] : List Int)) (l39.length + 1) (l40 ++ ([w64 (a6.Dust * v44)] : List Int)) (l40.length + 1) _ (len_app rfl rfl) (len_app rfl rfl) hm)
  ·replace hm := bif_f b41 hm
   refine q_ex 4 ?_
   obtain rfl := Option.some.inj hm
   exact L0_mk (by kernel_rfl) (by kernel_rfl)

set_option maxRecDepth 100000 in
theorem edge_Line_ok (a1 : List Slice) (a2 : List Defect) (a3 : List Product) (a4 : Rect) (a5 : Saw) (a6 : Rates) (r : Line × Int) (hm : edge_Line a1 a2 a3 a4 a5 a6 = some r) : CtX Tryd.prog globs 32 0 0 [.one (tl e_Slice default a1), .one (tl e_Defect default a2), .one (tl e_Product default a3), .agg (e_Rect a4), .agg (e_Saw a5), .agg (e_Rates a6)] [] (edge_Line_x r) (edge_Line_o r) := by
 unfold edge_Line at hm
 refine q_E Tryd.f32 145 fun E => ?_
 refine q_sq ?_
 refine q_vn [] 0 ⟨[(0, vc (tl e_Slice default a1)), (1, vc (tl e_Defect default a2)), (2, vc (tl e_Product default a3)), (9, vp 0 0), (10, vp 1 0), (11, vp 2 0), (12, vp 3 0)], [(0, bx 35 (e_Rect a4)), (1, bx 37 (e_Saw a5)), (2, bx 39 (e_Rates a6)), (3, bx 64 [ci 0, ci 0, ci 0, .emp, .emp, .emp, .emp])]⟩ ?_
 refine q_sq ?_
 refine q_sq ?_
 obtain ⟨v7, h8, hm⟩ := bind_s hm
 refine q_vu [qc 6 [27, 28, 29, 30, 31, 32] 4 (edge_check_ok a1 a2 a3 a4 a5 a6 v7 h8)] 4 [] [(14, vi v7)] [] [] ?_
 refine q_sq ?_
 refine q_vu [] 4 [] [(35, vb (v7 != 0))] [] [] ?_
 refine q_cn (v7 != 0) (fun b9 => ?_) (fun b9 => ?_)
 ·replace hm := bif_t b9 hm
  refine q_sq ?_
  refine q_vu [] 4 [0, 1, 2, 9, 10, 11, 14, 35] [(13, vi v7)] [0, 1, 2] [] ?_
  refine q_fn [.ownB 3 3 4 3 1 (rf e_i64 ([] : List Int))] ⟨[(12, vp 3 0), (13, vi v7)], [(3, bx 64 [ci 0, ci 0, ci 0, .own 4 0 1 0, .emp, .emp, .emp]), (4, ro 0 3 1 0 (rf e_i64 ([] : List Int)))]⟩ o0 ?_
  refine q_fn [.ownB 3 4 5 25 1 (rf (e_lst e_i64) ([] : List (List Int)))] ⟨[(12, vp 3 0), (13, vi v7)], [(3, bx 64 [ci 0, ci 0, ci 0, .own 4 0 1 0, .own 5 0 1 0, .emp, .emp]), (4, ro 0 3 1 0 (rf e_i64 ([] : List Int))), (5, ro 0 25 1 0 (rf (e_lst e_i64) ([] : List (List Int))))]⟩ o0 ?_
  refine q_fn [.ownB 3 5 6 3 1 (rf e_i64 ([] : List Int))] ⟨[(12, vp 3 0), (13, vi v7)], [(3, bx 64 [ci 0, ci 0, ci 0, .own 4 0 1 0, .own 5 0 1 0, .own 6 0 1 0, .emp]), (4, ro 0 3 1 0 (rf e_i64 ([] : List Int))), (5, ro 0 25 1 0 (rf (e_lst e_i64) ([] : List (List Int)))), (6, ro 0 3 1 0 (rf e_i64 ([] : List Int)))]⟩ o0 ?_
  refine q_fn [.ownB 3 6 7 3 1 (rf e_i64 ([] : List Int))] ⟨[(12, vp 3 0), (13, vi v7)], [(3, bx 64 [ci 0, ci 0, ci 0, .own 4 0 1 0, .own 5 0 1 0, .own 6 0 1 0, .own 7 0 1 0]), (4, ro 0 3 1 0 (rf e_i64 ([] : List Int))), (5, ro 0 25 1 0 (rf (e_lst e_i64) ([] : List (List Int)))), (6, ro 0 3 1 0 (rf e_i64 ([] : List Int))), (7, ro 0 3 1 0 (rf e_i64 ([] : List Int)))]⟩ o0 ?_
  refine q_fn [.len 4 (([] : List Int).length)] ⟨[(12, vp 3 0), (13, vi v7)], [(3, bx 64 [ci 0, ci 0, ci 0, .own 4 0 1 (([] : List Int).length), .own 5 0 1 0, .own 6 0 1 0, .own 7 0 1 0]), (4, ro 0 3 1 (([] : List Int).length) (rf e_i64 ([] : List Int))), (5, ro 0 25 1 0 (rf (e_lst e_i64) ([] : List (List Int)))), (6, ro 0 3 1 0 (rf e_i64 ([] : List Int))), (7, ro 0 3 1 0 (rf e_i64 ([] : List Int)))]⟩ (o1 (And.intro (show 0 = ([] : List Int).length from rfl) (show 0 = ([] : List Int).length from rfl))) ?_
  refine q_fn [.len 5 (([] : List (List Int)).length)] ⟨[(12, vp 3 0), (13, vi v7)], [(3, bx 64 [ci 0, ci 0, ci 0, .own 4 0 1 (([] : List Int).length), .own 5 0 1 (([] : List (List Int)).length), .own 6 0 1 0, .own 7 0 1 0]), (4, ro 0 3 1 (([] : List Int).length) (rf e_i64 ([] : List Int))), (5, ro 0 25 1 (([] : List (List Int)).length) (rf (e_lst e_i64) ([] : List (List Int)))), (6, ro 0 3 1 0 (rf e_i64 ([] : List Int))), (7, ro 0 3 1 0 (rf e_i64 ([] : List Int)))]⟩ (o1 (And.intro (show 0 = ([] : List (List Int)).length from rfl) (show 0 = ([] : List (List Int)).length from rfl))) ?_
  refine q_fn [.len 6 (([] : List Int).length)] ⟨[(12, vp 3 0), (13, vi v7)], [(3, bx 64 [ci 0, ci 0, ci 0, .own 4 0 1 (([] : List Int).length), .own 5 0 1 (([] : List (List Int)).length), .own 6 0 1 (([] : List Int).length), .own 7 0 1 0]), (4, ro 0 3 1 (([] : List Int).length) (rf e_i64 ([] : List Int))), (5, ro 0 25 1 (([] : List (List Int)).length) (rf (e_lst e_i64) ([] : List (List Int)))), (6, ro 0 3 1 (([] : List Int).length) (rf e_i64 ([] : List Int))), (7, ro 0 3 1 0 (rf e_i64 ([] : List Int)))]⟩ (o1 (And.intro (show 0 = ([] : List Int).length from rfl) (show 0 = ([] : List Int).length from rfl))) ?_
  refine q_fn [.len 7 (([] : List Int).length)] ⟨[(12, vp 3 0), (13, vi v7)], [(3, bx 64 [ci 0, ci 0, ci 0, .own 4 0 1 (([] : List Int).length), .own 5 0 1 (([] : List (List Int)).length), .own 6 0 1 (([] : List Int).length), .own 7 0 1 (([] : List Int).length)]), (4, ro 0 3 1 (([] : List Int).length) (rf e_i64 ([] : List Int))), (5, ro 0 25 1 (([] : List (List Int)).length) (rf (e_lst e_i64) ([] : List (List Int)))), (6, ro 0 3 1 (([] : List Int).length) (rf e_i64 ([] : List Int))), (7, ro 0 3 1 (([] : List Int).length) (rf e_i64 ([] : List Int)))]⟩ (o1 (And.intro (show 0 = ([] : List Int).length from rfl) (show 0 = ([] : List Int).length from rfl))) ?_
  obtain rfl := Option.some.inj hm
  refine H_swap 4 0 (by kernel_rfl) ?_
  refine H_swap 5 1 (by kernel_rfl) ?_
  refine H_swap 6 2 (by kernel_rfl) ?_
  refine H_swap 7 3 (by kernel_rfl) ?_
  refine q_rt ?_
  exact q_rm
 ·replace hm := bif_f b9 hm
  refine q_sk ?_
  refine q_sq ?_
  refine q_vu [] 4 [14, 35] [(15, vi (w64 (a4.X.B - a4.X.A)))] [] [] ?_
  refine q_sq ?_
  obtain ⟨v10, h11, hm⟩ := bind_s hm
  refine q_vu [qc 8 [46, 53] 4 (edge_Sizes_ok a3 (w64 (a4.Y.B - a4.Y.A)) v10 h11)] 4 [] [(16, vo 4 0 1 v10.1.length), (17, vo 5 0 1 v10.2.length)] [] [(4, ro 0 3 1 v10.1.length (rf e_i64 v10.1)), (5, ro 0 3 1 v10.2.length (rf e_i64 v10.2))] ?_
  refine q_sq ?_
  refine q_vu [] 6 [] [(18, vp 6 0)] [] [(6, bx 64 [ci (w64 (a4.X.B - a4.X.A)), ci a5.Kerf, ci 1, .own 4 0 1 v10.1.length, .emp, .emp, .emp])] ?_
  refine q_sq ?_
  refine q_sq ?_
  refine q_vu [] 7 [16] [(62, vo 4 0 1 v10.1.length), (63, vi ((v10.1.length : Nat) : Int)), (64, vi 0)] [] [] ?_
  refine q_fn [.ownB 6 4 7 25 1 (rf (e_lst e_i64) ([] : List (List Int)))] ⟨[(0, vc (tl e_Slice default a1)), (1, vc (tl e_Defect default a2)), (2, vc (tl e_Product default a3)), (9, vp 0 0), (10, vp 1 0), (11, vp 2 0), (12, vp 3 0), (15, vi (w64 (a4.X.B - a4.X.A))), (17, vo 5 0 1 v10.2.length), (18, vp 6 0), (62, vo 4 0 1 v10.1.length), (63, vi ((v10.1.length : Nat) : Int)), (64, vi 0)], [(0, bx 35 (e_Rect a4)), (1, bx 37 (e_Saw a5)), (2, bx 39 (e_Rates a6)), (3, bx 64 [ci 0, ci 0, ci 0, .emp, .emp, .emp, .emp]), (4, ro 0 3 1 v10.1.length (rf e_i64 v10.1)), (5, ro 0 3 1 v10.2.length (rf e_i64 v10.2)), (6, bx 64 [ci (w64 (a4.X.B - a4.X.A)), ci a5.Kerf, ci 1, .own 4 0 1 v10.1.length, .own 7 0 1 0, .emp, .emp]), (7, ro 0 25 1 0 (rf (e_lst e_i64) ([] : List (List Int))))]⟩ o0 ?_
  obtain ⟨o34, h35, hm⟩ := bind_s hm
  refine R_loop0 (nd Tryd.f32 1012) 0 (by kernel_rfl) FUEL (fun o => edge_Line_L1_T a1 a4 a5 a6 v10 o) o34 (q_hl (edge_Line_L1_S a1 a2 a3 a4 a5 a6 v10 0 ([] : List (List Int)) 0) (edge_Line_L1_ok E a1 a2 a3 a4 a5 a6 v10 FUEL 0 ([] : List (List Int)) 0 o34 rfl h35)) ?_
  refine q_sq ?_
  obtain ⟨v36, h37, hm⟩ := bind_s hm
  refine q_vu [qc 1 [110] 8 (solid_Length_ok a1 v36 h37)] 8 [] [(24, vp 8 0)] [] [(8, bx 33 [ci 0, ci v36])] ?_
  refine q_sq ?_
  refine q_sq ?_
  refine q_vu [] 9 [15] [(113, vi (w64 (a4.X.B - a4.X.A))), (114, vi 0)] [] [] ?_
  refine q_fn [.ownB 6 5 9 3 1 (rf e_i64 ([] : List Int))] ⟨[(0, vc (tl e_Slice default a1)), (9, vp 0 0), (11, vp 2 0), (12, vp 3 0), (18, vp 6 0), (24, vp 8 0), (113, vi (w64 (a4.X.B - a4.X.A))), (114, vi 0)], [(0, bx 35 (e_Rect a4)), (2, bx 39 (e_Rates a6)), (3, bx 64 [ci 0, ci 0, ci 0, .emp, .emp, .emp, .emp]), (4, ro 0 3 1 v10.1.length (rf e_i64 v10.1)), (6, bx 64 [ci (w64 (a4.X.B - a4.X.A)), ci a5.Kerf, ci 1, .own 4 0 1 v10.1.length, .own 7 0 1 o34.length, .own 9 0 1 0, .emp]), (7, ro 0 25 1 o34.length (rf (e_lst e_i64) o34)), (8, bx 33 [ci 0, ci v36]), (9, ro 0 3 1 0 (rf e_i64 ([] : List Int)))]⟩ o0 ?_
  refine q_fn [.ownB 6 6 10 3 1 (rf e_i64 ([] : List Int))] ⟨[(0, vc (tl e_Slice default a1)), (9, vp 0 0), (11, vp 2 0), (12, vp 3 0), (18, vp 6 0), (24, vp 8 0), (113, vi (w64 (a4.X.B - a4.X.A))), (114, vi 0)], [(0, bx 35 (e_Rect a4)), (2, bx 39 (e_Rates a6)), (3, bx 64 [ci 0, ci 0, ci 0, .emp, .emp, .emp, .emp]), (4, ro 0 3 1 v10.1.length (rf e_i64 v10.1)), (6, bx 64 [ci (w64 (a4.X.B - a4.X.A)), ci a5.Kerf, ci 1, .own 4 0 1 v10.1.length, .own 7 0 1 o34.length, .own 9 0 1 0, .own 10 0 1 0]), (7, ro 0 25 1 o34.length (rf (e_lst e_i64) o34)), (8, bx 33 [ci 0, ci v36]), (9, ro 0 3 1 0 (rf e_i64 ([] : List Int))), (10, ro 0 3 1 0 (rf e_i64 ([] : List Int)))]⟩ o0 ?_
  obtain ⟨o50, h51, hm⟩ := bind_s hm
  refine R_loop0 (nd Tryd.f32 4084) 4 (by kernel_rfl) FUEL (fun o => edge_Line_L4_T a4 a5 v10 o34 o.1 o.2) o50 (q_hl (edge_Line_L4_S a1 a4 a5 a6 v10 o34 v36 0 ([] : List Int) 0 ([] : List Int) 0) (edge_Line_L4_ok E a1 a4 a5 a6 v10 o34 v36 FUEL 0 ([] : List Int) 0 ([] : List Int) 0 o50 rfl rfl h51)) ?_
  refine q_sq ?_
  refine q_vu [] 11 [18] [(13, vi 0)] [3, 6] [(3, bx 64 [ci (w64 (a4.X.B - a4.X.A)), ci a5.Kerf, ci 1, .own 4 0 1 v10.1.length, .own 7 0 1 o34.length, .own 9 0 1 o50.1.length, .own 10 0 1 o50.2.length])] ?_
  obtain rfl := Option.some.inj hm
  refine H_swap 4 0 (by kernel_rfl) ?_
  refine H_swap 7 1 (by kernel_rfl) ?_
  refine H_swap 9 2 (by kernel_rfl) ?_
  refine H_swap 10 3 (by kernel_rfl) ?_
  refine q_rt ?_
  exact q_rm

end Saw
end Go.SL

namespace Go.SL
namespace Saw
open Go.Proofs
set_option maxHeartbeats 4000000

def slices_Clone_SNode_x (r : List Node) : V := vo 0 0 2 r.length

def slices_Clone_SNode_o (r : List Node) : List (Nat × (Nat × O)) := [(0, ro 0 80 2 r.length (rf e_Node r))]

theorem slices_Clone_SNode_f (r : List Node) : Frozen (slices_Clone_SNode_o r) := by
 intro i k o h
 unfold slices_Clone_SNode_o at h
 rw [look_cons] at h
 split at h
 ·cases h; exact fun _ _ => rfl
 ·cases h

set_option maxRecDepth 100000 in
theorem slices_Clone_SNode_ok (a1 : List Node) (r : List Node) (hm : slices_Clone_SNode a1 = some r) : CtX Tryd.prog globs 87 0 0 [.one (tl e_Node default a1)] [] (slices_Clone_SNode_x r) (slices_Clone_SNode_o r) := by
 unfold slices_Clone_SNode at hm
 obtain ⟨g1, hm⟩ := bif_n hm
 obtain rfl := Option.some.inj hm
 refine CtX_of_E (fn := Tryd.f87) (c := nd Tryd.f87 1) (nt := 8) (by kernel_rfl) (by kernel_rfl) (by kernel_rfl) (by kernel_rfl) fun E => ?_
 refine R_sq Tryd.f87 2 3 (by kernel_rfl) ?_
 refine R_rn Tryd.f87 2 0 [] [] 0 ⟨[(0, vc (tl e_Node default a1))], []⟩ o0 (by kernel_rfl) (by kernel_rfl) ?_
 refine R_sq Tryd.f87 6 7 (by kernel_rfl) ?_
 refine R_sq Tryd.f87 12 13 (by kernel_rfl) ?_
 refine R_nil Tryd.f87 12 1 1 ⟨[(0, vc (tl e_Node default a1)), (3, vc (tl e_Node default a1))], []⟩ 45 45 80 4 (.tmp 3) a1.length (rf e_Node a1) (by kernel_rfl) (by kernel_rfl) (by kernel_rfl) (fun b hb => ?_)
 refine R_cn Tryd.f87 (.tmp 4) 26 27 (by kernel_rfl) b (by kernel_rfl) (fun b6 => ?_) (fun b6 => ?_)
 ·obtain rfl : a1 = [] := List.eq_nil_of_length_eq_zero (hb b6)
  refine R_sq Tryd.f87 52 53 (by kernel_rfl) ?_
  refine R_rn Tryd.f87 52 2 [] [.own 2 0 80 2 (rf e_Node ([] : List Node))] 0 ⟨[(2, vo 0 0 2 0)], [(0, ro 0 80 2 0 (rf e_Node ([] : List Node)))]⟩ o0 (by kernel_rfl) (by kernel_rfl) ?_
  refine R_ret (by kernel_rfl) ?_
  exact ret_mk (by kernel_rfl) (by kernel_rfl)
 ·refine R_skip (by kernel_rfl) ?_
  refine R_sq Tryd.f87 14 15 (by kernel_rfl) ?_
  refine R_rn Tryd.f87 14 3 [(0, drw 0 0 (rf e_Node ([] : List Node))), (2, drw 0 1 (rf e_Node ([] ++ a1)))] [.len 0 a1.length] 0 ⟨[(2, vo 0 1 2 a1.length)], [(0, ro 1 80 2 a1.length (rf e_Node ([] ++ a1)))]⟩ (o1 (And.intro (And.intro (litP e_Node default 2 (fun _ => rfl) ([] : List Node) 0 rfl) (apP e_Node default ([] : List Node) a1 0 a1.length 2 16 True trivial rfl rfl (fun _ => rfl) (by have := room_of g1; rw [Nat.zero_add]; exact this))) (And.intro (And.intro (Nat.zero_add a1.length) (Nat.zero_add a1.length)) (Nat.zero_add a1.length)))) (by kernel_rfl) (by kernel_rfl) ?_
  refine R_ret (by kernel_rfl) ?_
  exact ret_mk (by kernel_rfl) (by kernel_rfl)

end Saw
end Go.SL

namespace Go.SL
namespace Saw
open Go.Proofs
set_option maxHeartbeats 4000000

def edge_collect_s1_x (a1 : List (List Node)) (a2 : List Node) (r : (List (List Node)) × (List (List Node))) : V := vo 0 0 1 r.2.length

def edge_collect_s1_o (a1 : List (List Node)) (a2 : List Node) (r : (List (List Node)) × (List (List Node))) : List (Nat × (Nat × O)) := [(0, ro 0 45 1 r.2.length (rf (e_lst e_Node) r.2)), (1, ro 0 80 2 a2.length (rf e_Node a2))]

set_option maxRecDepth 100000 in
theorem edge_collect_s1_ok (a1 : List (List Node)) (a2 : List Node) (r : (List (List Node)) × (List (List Node))) (hm : edge_collect_s1 a1 a2 = some r) : CtX Tryd.prog globs 57 2 0 [.one (.own 0 0 1 a1.length), .one (.own 1 0 2 a2.length)] [(0, ro 0 45 1 a1.length (rf (e_lst e_Node) a1)), (1, ro 0 80 2 a2.length (rf e_Node a2))] (edge_collect_s1_x a1 a2 r) (edge_collect_s1_o a1 a2 r) := by
 unfold edge_collect_s1 at hm
 refine q_E Tryd.f57 10 fun E => ?_
 refine q_sq ?_
 refine q_vn [] 2 ⟨[(0, vo 0 0 1 a1.length), (1, vo 1 0 2 a2.length)], [(0, ro 0 45 1 a1.length (rf (e_lst e_Node) a1)), (1, ro 0 80 2 a2.length (rf e_Node a2))]⟩ ?_
 refine q_sq ?_
 obtain ⟨v3, h4, hm⟩ := bind_s hm
 obtain ⟨g5, hm⟩ := bif_n hm
 refine q_vu [qd 2 (dex (cen [] [] 2 0 (slices_Clone_SNode_x v3) (slices_Clone_SNode_o v3) [6] [1])) (callS (K := (kx E 10 0)) (b := false) ⟨[(6, vo 1 0 2 a2.length)], [(1, ro 0 80 2 a2.length (rf e_Node a2))]⟩ (opAt (rg Tryd.f57 6) 2) [] [] 2 (o1 (Nat.le_refl a2.length)) rfl (slices_Clone_SNode_ok a2 v3 h4) (.inr ⟨(by kernel_rfl), slices_Clone_SNode_f v3⟩) (by kernel_rfl)), qd 3 (dpr [.frz 2] (drw 3 0 (rf (e_lst e_Node) ([v3] : List (List Node))))) (Nat.le_refl v3.length), qd 3 (Dir.none) (litP (e_lst e_Node) default 1 (fun _ => rfl) ([v3] : List (List Node)) 1 rfl), qd 4 (drw 0 1 (rf (e_lst e_Node) (a1 ++ ([v3] : List (List Node))))) (apP (e_lst e_Node) default a1 ([v3] : List (List Node)) a1.length 1 1 24 (1 ≤ 1) (Nat.le_refl _) rfl rfl (fun _ => rfl) (room_of g5))] 2 [0, 1] [(4, vo 0 1 1 (a1.length + 1))] [0] [(0, ro 1 45 1 (a1.length + 1) (rf (e_lst e_Node) (a1 ++ ([v3] : List (List Node)))))] ?_
 refine q_fn [.len 0 ((a1 ++ ([v3] : List (List Node))).length)] ⟨[(4, vo 0 1 1 ((a1 ++ ([v3] : List (List Node))).length))], [(0, ro 1 45 1 ((a1 ++ ([v3] : List (List Node))).length) (rf (e_lst e_Node) (a1 ++ ([v3] : List (List Node))))), (1, ro 0 80 2 a2.length (rf e_Node a2))]⟩ (o1 (And.intro (Eq.symm (show (a1 ++ ([v3] : List (List Node))).length = (a1.length + 1) from (len_app rfl rfl))) (Eq.symm (show (a1 ++ ([v3] : List (List Node))).length = (a1.length + 1) from (len_app rfl rfl))))) ?_
 obtain rfl := Option.some.inj hm
 refine q_rt ?_
 exact q_rm

end Saw
end Go.SL

namespace Go.SL
namespace Saw
open Go.Proofs
set_option maxHeartbeats 4000000

def cutting_behind_x (r : Int) : V := vi r

def cutting_behind_o (r : Int) : List (Nat × (Nat × O)) := []

theorem cutting_behind_f (r : Int) : Frozen (cutting_behind_o r) := by
 intro i k o h
 unfold cutting_behind_o at h
 cases h

set_option maxRecDepth 100000 in
theorem cutting_behind_ok (a1 : Line) (a2 : Int) (r : Int) (hm : cutting_behind a1 a2 = some r) : CtX Tryd.prog globs 70 0 0 [.agg (e_Line a1), .one (ci a2)] [] (cutting_behind_x r) (cutting_behind_o r) := by
 unfold cutting_behind at hm
 refine q_E Tryd.f70 16 fun E => ?_
 refine q_sq ?_
 refine q_vn [] 0 ⟨[(1, vi a2), (2, vp 0 0)], [(0, bx 64 (e_Line a1))]⟩ ?_
 refine q_sq ?_
 refine q_sq ?_
 refine q_vu [] 1 [] [(8, vb (a2 == a1.Len))] [] [] ?_
 refine q_cn (a2 == a1.Len) (fun b3 => ?_) (fun b3 => ?_)
 ·replace hm := bif_t b3 hm
  refine q_sq ?_
  refine q_vn [] 1 ⟨[(4, vi (-1))], []⟩ ?_
  obtain rfl := Option.some.inj hm
  refine q_rt ?_
  exact q_rm
 ·replace hm := bif_f b3 hm
  refine q_sk ?_
  refine q_sq ?_
  refine q_vn [] 1 ⟨[(4, vi (imin (w64 (a2 + a1.Kerf)) a1.Len))], []⟩ ?_
  obtain rfl := Option.some.inj hm
  refine q_rt ?_
  exact q_rm

end Saw
end Go.SL

namespace Go.SL
namespace Saw
open Go.Proofs
set_option maxHeartbeats 4000000

def cutting_places_x (r : Int) : V := vi r

def cutting_places_o (r : Int) : List (Nat × (Nat × O)) := []

theorem cutting_places_f (r : Int) : Frozen (cutting_places_o r) := by
 intro i k o h
 unfold cutting_places_o at h
 cases h

set_option maxRecDepth 100000 in
theorem cutting_places_ok (a1 : Line) (a2 : Int) (r : Int) (hm : cutting_places a1 a2 = some r) : CtX Tryd.prog globs 93 0 0 [.agg (e_Line a1), .one (ci a2)] [] (cutting_places_x r) (cutting_places_o r) := by
 unfold cutting_places at hm
 refine q_E Tryd.f93 11 fun E => ?_
 refine q_sq ?_
 refine q_vn [] 0 ⟨[(1, vi a2), (2, vp 0 0)], [(0, bx 64 (e_Line a1))]⟩ ?_
 refine q_sq ?_
 refine q_vn [] 1 ⟨[(4, vi (imax 0 (w64 ((w64 (a1.Len - a2)) + 1))))], []⟩ ?_
 obtain rfl := Option.some.inj hm
 refine q_rt ?_
 exact q_rm

end Saw
end Go.SL

namespace Go.SL
namespace Saw
open Go.Proofs
set_option maxHeartbeats 4000000

def cutting_measures_x (r : Int) : V := vi r

def cutting_measures_o (r : Int) : List (Nat × (Nat × O)) := []

theorem cutting_measures_f (r : Int) : Frozen (cutting_measures_o r) := by
 intro i k o h
 unfold cutting_measures_o at h
 cases h

def cutting_measures_k3_S (a1 : Line) (x10 : Int) (x14 : Bool) : St :=
 ⟨[(38, vc (tl e_i64 default a1.Sizes)), (39, vi ((a1.Sizes.length : Nat) : Int)), (40, vi x10), (49, vb x14)], []⟩

def cutting_measures_L2_S (a1 : Line) (x10 : Int) : St :=
 ⟨[(38, vc (tl e_i64 default a1.Sizes)), (39, vi ((a1.Sizes.length : Nat) : Int)), (40, vi x10)], []⟩

def cutting_measures_L2_T : St :=
 ⟨[], []⟩

def cutting_measures_k1_S (a1 : Line) (x7 : Bool) : St :=
 ⟨[(1, vp 0 0), (32, vb x7)], [(0, bx 64 (e_Line a1))]⟩

set_option maxRecDepth 100000 in
theorem cutting_measures_L2_ok (E : Env 0) (a1 : Line) : ∀ (n : Nat) (x10 : Int) (res : Int ⊕ Unit), cutting_measures_L2 a1 n x10 = some res → HL (kx E 51 0) (nd Tryd.f92 244) (loopQ 0 (fun o => cutting_measures_L2_T) (fun v st => RetQ Tryd.prog Tryd.f92 (cutting_measures_x v) (cutting_measures_o v) .ret st) res) n (cutting_measures_L2_S a1 x10) := by
 intro n
 induction n with
 | zero =>
  intro x10 res hm
  cases hm
 | succ n ih =>
  intro x10 res hm
  refine HL_succ ?_
  refine q_sq ?_
  refine q_vu [] 1 [] [(41, vb (decide (x10 < ((a1.Sizes.length : Nat) : Int))))] [] [] ?_
  refine q_sq ?_
  refine q_cn (decide (x10 < ((a1.Sizes.length : Nat) : Int))) (fun b11 => ?_) (fun b11 => ?_)
  ·replace hm := bif_t b11 hm
   refine q_sk ?_
   refine q_sq ?_
   refine q_bk 1 ?_
   refine q_sq ?_
   obtain ⟨g12, hm⟩ := bif_n hm
   refine q_vu [qd 0 (Dir.none) (inb_of g12)] 1 [41] [(4, vi (a1.Sizes.getD x10.toNat default))] [] [] ?_
   refine q_jn (ι := Bool) (fun p => cutting_measures_k3_S a1 x10 p) (fun p => cutting_measures_k3 x10 (cutting_measures_L2 a1 n) p = some res) ?_ ?_
   ·rintro x14 hm
    show H _ (cutting_measures_k3_S a1 x10 x14) _ _
    refine q_cn x14 (fun b15 => ?_) (fun b15 => ?_)
    ·replace hm := bif_t b15 hm
     refine q_sq ?_
     refine q_vn [] 1 ⟨[(2, vi 9)], []⟩ ?_
     obtain rfl := Option.some.inj hm
     refine q_rt ?_
     refine L1_ret 9 ?_
     exact q_rm
    ·replace hm := bif_f b15 hm
     refine q_sk ?_
     refine q_vu [] 1 [40, 49] [(40, vi (w64 (x10 + 1)))] [] [] ?_
     exact q_hl (cutting_measures_L2_S a1 (w64 (x10 + 1))) (ih (w64 (x10 + 1)) _ hm)
   ·rcases Bool.eq_false_or_eq_true (decide ((a1.Sizes.getD x10.toNat default) < 1)) with b13 | b13
    ·replace hm := bif_t b13 hm
     refine q_vu [qf 2 b13] 1 [4] [(49, vb true)] [] [] ?_
     exact q_J (true) hm
    ·replace hm := bif_f b13 hm
     refine q_vu [qf 2 b13] 1 [4] [(47, vi (a1.Sizes.getD x10.toNat default)), (48, vb (decide ((a1.Sizes.getD x10.toNat default) > 2000))), (49, vb (decide ((a1.Sizes.getD x10.toNat default) > 2000)))] [] [] ?_
     exact q_J (decide ((a1.Sizes.getD x10.toNat default) > 2000)) hm
  ·replace hm := bif_f b11 hm
   refine q_ex 0 ?_
   obtain rfl := Option.some.inj hm
   exact L1_mk () (by kernel_rfl) (by kernel_rfl)

set_option maxRecDepth 100000 in
theorem cutting_measures_ok (a1 : Line) (r : Int) (hm : cutting_measures a1 = some r) : CtX Tryd.prog globs 92 0 0 [.agg (e_Line a1)] [] (cutting_measures_x r) (cutting_measures_o r) := by
 unfold cutting_measures at hm
 refine q_E Tryd.f92 51 fun E => ?_
 refine q_sq ?_
 refine q_vn [] 0 ⟨[(1, vp 0 0)], [(0, bx 64 (e_Line a1))]⟩ ?_
 refine q_sq ?_
 refine q_jn (ι := Bool) (fun p => cutting_measures_k1_S a1 p) (fun p => cutting_measures_k1 a1 p = some r) ?_ ?_
 ·rintro x7 hm
  show H _ (cutting_measures_k1_S a1 x7) _ _
  refine q_cn x7 (fun b8 => ?_) (fun b8 => ?_)
  ·replace hm := bif_t b8 hm
   refine q_sq ?_
   refine q_vn [] 1 ⟨[(2, vi 9)], []⟩ ?_
   obtain rfl := Option.some.inj hm
   refine q_rt ?_
   exact q_rm
  ·replace hm := bif_f b8 hm
   refine q_sk ?_
   refine q_sq ?_
   refine q_sq ?_
   refine q_vu [] 1 [32] [(36, vb (decide (((a1.Sizes.length : Nat) : Int) > 32)))] [] [] ?_
   refine q_cn (decide (((a1.Sizes.length : Nat) : Int) > 32)) (fun b9 => ?_) (fun b9 => ?_)
   ·replace hm := bif_t b9 hm
    refine q_sq ?_
    refine q_vn [] 1 ⟨[(2, vi 4)], []⟩ ?_
    obtain rfl := Option.some.inj hm
    refine q_rt ?_
    exact q_rm
   ·replace hm := bif_f b9 hm
    refine q_sk ?_
    refine q_sq ?_
    refine q_sq ?_
    refine q_vn [] 1 ⟨[(38, vc (tl e_i64 default a1.Sizes)), (39, vi ((a1.Sizes.length : Nat) : Int)), (40, vi 0)], []⟩ ?_
    obtain ⟨u18, h17, hm⟩ := bind_s hm
    refine R_loop1 (nd Tryd.f92 244) 0 (by kernel_rfl) FUEL (fun o => cutting_measures_L2_T) (fun v st => RetQ Tryd.prog Tryd.f92 (cutting_measures_x v) (cutting_measures_o v) .ret st) u18 (q_hl (cutting_measures_L2_S a1 0) (cutting_measures_L2_ok E a1 FUEL 0 u18 h17)) ?_ ?_
    ·rintro v19 rfl st hr
     obtain rfl := Option.some.inj hm
     exact hr
    ·rintro o16 rfl
     replace hm : _ = some r := hm
     refine q_sq ?_
     refine q_vn [] 1 ⟨[(2, vi 0)], []⟩ ?_
     obtain rfl := Option.some.inj hm
     refine q_rt ?_
     exact q_rm
 ·rcases Bool.eq_false_or_eq_true (decide (a1.Len < 0)) with b2 | b2
  ·replace hm := bif_t b2 hm
   refine q_vu [qf 3 b2] 1 [] [(32, vb true)] [] [] ?_
   exact q_J (true) hm
  ·replace hm := bif_f b2 hm
   rcases Bool.eq_false_or_eq_true (decide (a1.Len > 2000)) with b3 | b3
   ·replace hm := bif_t b3 hm
    refine q_vu [qf 3 b2, qf 8 b3] 1 [] [(32, vb true)] [] [] ?_
    exact q_J (true) hm
   ·replace hm := bif_f b3 hm
    rcases Bool.eq_false_or_eq_true (decide (a1.Kerf < 0)) with b4 | b4
    ·replace hm := bif_t b4 hm
     refine q_vu [qf 3 b2, qf 8 b3, qf 13 b4] 1 [] [(32, vb true)] [] [] ?_
     exact q_J (true) hm
    ·replace hm := bif_f b4 hm
     rcases Bool.eq_false_or_eq_true (decide (a1.Kerf > 20)) with b5 | b5
     ·replace hm := bif_t b5 hm
      refine q_vu [qf 3 b2, qf 8 b3, qf 13 b4, qf 18 b5] 1 [] [(32, vb true)] [] [] ?_
      exact q_J (true) hm
     ·replace hm := bif_f b5 hm
      rcases Bool.eq_false_or_eq_true (decide (a1.Pitch < 1)) with b6 | b6
      ·replace hm := bif_t b6 hm
       refine q_vu [qf 3 b2, qf 8 b3, qf 13 b4, qf 18 b5, qf 23 b6] 1 [] [(32, vb true)] [] [] ?_
       exact q_J (true) hm
      ·replace hm := bif_f b6 hm
       refine q_vu [qf 3 b2, qf 8 b3, qf 13 b4, qf 18 b5, qf 23 b6] 1 [] [(32, vb (decide (a1.Pitch > 2000)))] [] [] ?_
       exact q_J (decide (a1.Pitch > 2000)) hm

end Saw
end Go.SL

namespace Go.SL
namespace Saw
open Go.Proofs
set_option maxHeartbeats 4000000

def cutting_small_x (r : Bool) : V := vb r

def cutting_small_o (r : Bool) : List (Nat × (Nat × O)) := []

theorem cutting_small_f (r : Bool) : Frozen (cutting_small_o r) := by
 intro i k o h
 unfold cutting_small_o at h
 cases h

def cutting_small_k3_S (a1 : List (List Int)) (x2 : Int) (x5 : Int) (x9 : Bool) : St :=
 ⟨[(7, vc (tl (e_lst e_i64) default a1)), (8, vi ((a1.length : Nat) : Int)), (9, vi x2), (13, vc (tl e_i64 default (a1.getD x2.toNat default))), (14, vi (((a1.getD x2.toNat default).length : Nat) : Int)), (15, vi x5), (24, vb x9)], []⟩

def cutting_small_L2_S (a1 : List (List Int)) (x2 : Int) (x5 : Int) : St :=
 ⟨[(7, vc (tl (e_lst e_i64) default a1)), (8, vi ((a1.length : Nat) : Int)), (9, vi x2), (13, vc (tl e_i64 default (a1.getD x2.toNat default))), (14, vi (((a1.getD x2.toNat default).length : Nat) : Int)), (15, vi x5)], []⟩

def cutting_small_L2_T (a1 : List (List Int)) (x2 : Int) : St :=
 ⟨[(7, vc (tl (e_lst e_i64) default a1)), (8, vi ((a1.length : Nat) : Int)), (9, vi x2)], []⟩

def cutting_small_L1_S (a1 : List (List Int)) (x2 : Int) : St :=
 ⟨[(7, vc (tl (e_lst e_i64) default a1)), (8, vi ((a1.length : Nat) : Int)), (9, vi x2)], []⟩

def cutting_small_L1_T : St :=
 ⟨[], []⟩

set_option maxRecDepth 100000 in
theorem cutting_small_L2_ok (E : Env 0) (a1 : List (List Int)) (x2 : Int) : ∀ (n : Nat) (x5 : Int) (res : Bool ⊕ Unit), cutting_small_L2 a1 x2 n x5 = some res → HL (kx E 27 0) (nd Tryd.f94 13516) (loopQ 2 (fun o => cutting_small_L2_T a1 x2) (fun v st => RetQ Tryd.prog Tryd.f94 (cutting_small_x v) (cutting_small_o v) .ret st) res) n (cutting_small_L2_S a1 x2 x5) := by
 intro n
 induction n with
 | zero =>
  intro x5 res hm
  cases hm
 | succ n ih =>
  intro x5 res hm
  refine HL_succ ?_
  refine q_sq ?_
  refine q_vu [] 0 [] [(16, vb (decide (x5 < (((a1.getD x2.toNat default).length : Nat) : Int))))] [] [] ?_
  refine q_sq ?_
  refine q_cn (decide (x5 < (((a1.getD x2.toNat default).length : Nat) : Int))) (fun b6 => ?_) (fun b6 => ?_)
  ·replace hm := bif_t b6 hm
   refine q_sk ?_
   refine q_sq ?_
   refine q_bk 3 ?_
   refine q_sq ?_
   obtain ⟨g7, hm⟩ := bif_n hm
   refine q_vu [qd 0 (Dir.none) (inb_of g7)] 0 [16] [(6, vi ((a1.getD x2.toNat default).getD x5.toNat default))] [] [] ?_
   refine q_jn (ι := Bool) (fun p => cutting_small_k3_S a1 x2 x5 p) (fun p => cutting_small_k3 x5 (cutting_small_L2 a1 x2 n) p = some res) ?_ ?_
   ·rintro x9 hm
    show H _ (cutting_small_k3_S a1 x2 x5 x9) _ _
    refine q_cn x9 (fun b10 => ?_) (fun b10 => ?_)
    ·replace hm := bif_t b10 hm
     refine q_sq ?_
     refine q_vn [] 0 ⟨[(2, vb false)], []⟩ ?_
     obtain rfl := Option.some.inj hm
     refine q_rt ?_
     refine L1_ret false ?_
     exact q_rm
    ·replace hm := bif_f b10 hm
     refine q_sk ?_
     refine q_vu [] 0 [15, 24] [(15, vi (w64 (x5 + 1)))] [] [] ?_
     exact q_hl (cutting_small_L2_S a1 x2 (w64 (x5 + 1))) (ih (w64 (x5 + 1)) _ hm)
   ·rcases Bool.eq_false_or_eq_true (decide (((a1.getD x2.toNat default).getD x5.toNat default) < (-1125899906842624))) with b8 | b8
    ·replace hm := bif_t b8 hm
     refine q_vu [qf 2 b8] 0 [6] [(24, vb true)] [] [] ?_
     exact q_J (true) hm
    ·replace hm := bif_f b8 hm
     refine q_vu [qf 2 b8] 0 [6] [(22, vi ((a1.getD x2.toNat default).getD x5.toNat default)), (23, vb (decide (((a1.getD x2.toNat default).getD x5.toNat default) > 1125899906842624))), (24, vb (decide (((a1.getD x2.toNat default).getD x5.toNat default) > 1125899906842624)))] [] [] ?_
     exact q_J (decide (((a1.getD x2.toNat default).getD x5.toNat default) > 1125899906842624)) hm
  ·replace hm := bif_f b6 hm
   refine q_ex 2 ?_
   obtain rfl := Option.some.inj hm
   exact L1_mk () (by kernel_rfl) (by kernel_rfl)

set_option maxRecDepth 100000 in
theorem cutting_small_L1_ok (E : Env 0) (a1 : List (List Int)) : ∀ (n : Nat) (x2 : Int) (res : Bool ⊕ Unit), cutting_small_L1 a1 n x2 = some res → HL (kx E 27 0) (nd Tryd.f94 52) (loopQ 0 (fun o => cutting_small_L1_T) (fun v st => RetQ Tryd.prog Tryd.f94 (cutting_small_x v) (cutting_small_o v) .ret st) res) n (cutting_small_L1_S a1 x2) := by
 intro n
 induction n with
 | zero =>
  intro x2 res hm
  cases hm
 | succ n ih =>
  intro x2 res hm
  refine HL_succ ?_
  refine q_sq ?_
  refine q_vu [] 0 [] [(10, vb (decide (x2 < ((a1.length : Nat) : Int))))] [] [] ?_
  refine q_sq ?_
  refine q_cn (decide (x2 < ((a1.length : Nat) : Int))) (fun b3 => ?_) (fun b3 => ?_)
  ·replace hm := bif_t b3 hm
   refine q_sk ?_
   refine q_sq ?_
   refine q_bk 1 ?_
   refine q_sq ?_
   obtain ⟨g4, hm⟩ := bif_n hm
   refine q_vu [qd 0 (Dir.none) (inb_of g4)] 0 [10] [(4, vc (tl e_i64 default (a1.getD x2.toNat default)))] [] [] ?_
   refine q_sq ?_
   refine q_vu [] 0 [4] [(13, vc (tl e_i64 default (a1.getD x2.toNat default))), (14, vi (((a1.getD x2.toNat default).length : Nat) : Int)), (15, vi 0)] [] [] ?_
   obtain ⟨u13, h12, hm⟩ := bind_s hm
   refine R_loop1 (nd Tryd.f94 13516) 2 (by kernel_rfl) FUEL (fun o => cutting_small_L2_T a1 x2) (fun v st => RetQ Tryd.prog Tryd.f94 (cutting_small_x v) (cutting_small_o v) .ret st) u13 (q_hl (cutting_small_L2_S a1 x2 0) (cutting_small_L2_ok E a1 x2 FUEL 0 u13 h12)) ?_ ?_
   ·rintro v14 rfl st hr
    obtain rfl := Option.some.inj hm
    exact L1_ret v14 hr
   ·rintro o11 rfl
    replace hm : _ = some res := hm
    refine q_vu [] 0 [9] [(9, vi (w64 (x2 + 1)))] [] [] ?_
    exact q_hl (cutting_small_L1_S a1 (w64 (x2 + 1))) (ih (w64 (x2 + 1)) _ hm)
  ·replace hm := bif_f b3 hm
   refine q_ex 0 ?_
   obtain rfl := Option.some.inj hm
   exact L1_mk () (by kernel_rfl) (by kernel_rfl)

set_option maxRecDepth 100000 in
theorem cutting_small_ok (a1 : List (List Int)) (r : Bool) (hm : cutting_small a1 = some r) : CtX Tryd.prog globs 94 0 0 [.one (tl (e_lst e_i64) default a1)] [] (cutting_small_x r) (cutting_small_o r) := by
 unfold cutting_small at hm
 refine q_E Tryd.f94 27 fun E => ?_
 refine q_sq ?_
 refine q_vn [] 0 ⟨[(0, vc (tl (e_lst e_i64) default a1))], []⟩ ?_
 refine q_sq ?_
 refine q_sq ?_
 refine q_vn [] 0 ⟨[(7, vc (tl (e_lst e_i64) default a1)), (8, vi ((a1.length : Nat) : Int)), (9, vi 0)], []⟩ ?_
 obtain ⟨u17, h16, hm⟩ := bind_s hm
 refine R_loop1 (nd Tryd.f94 52) 0 (by kernel_rfl) FUEL (fun o => cutting_small_L1_T) (fun v st => RetQ Tryd.prog Tryd.f94 (cutting_small_x v) (cutting_small_o v) .ret st) u17 (q_hl (cutting_small_L1_S a1 0) (cutting_small_L1_ok E a1 FUEL 0 u17 h16)) ?_ ?_
 ·rintro v18 rfl st hr
  obtain rfl := Option.some.inj hm
  exact hr
 ·rintro o15 rfl
  replace hm : _ = some r := hm
  refine q_sq ?_
  refine q_vn [] 0 ⟨[(2, vb true)], []⟩ ?_
  obtain rfl := Option.some.inj hm
  refine q_rt ?_
  exact q_rm

end Saw
end Go.SL

namespace Go.SL
namespace Saw
open Go.Proofs
set_option maxHeartbeats 4000000

def cutting_Check_x (r : Int) : V := vi r

def cutting_Check_o (r : Int) : List (Nat × (Nat × O)) := []

theorem cutting_Check_f (r : Int) : Frozen (cutting_Check_o r) := by
 intro i k o h
 unfold cutting_Check_o at h
 cases h

def cutting_Check_L2_S (a1 : Line) (x9 : Int) : St :=
 ⟨[(1, vp 0 0), (35, vc (tl (e_lst e_i64) default a1.Gain)), (36, vi ((a1.Gain.length : Nat) : Int)), (37, vi x9)], [(0, bx 64 (e_Line a1))]⟩

def cutting_Check_L2_T (a1 : Line) : St :=
 ⟨[(1, vp 0 0)], [(0, bx 64 (e_Line a1))]⟩

def cutting_Check_k3_S (x25 : Bool) : St :=
 ⟨[(65, vb x25)], []⟩

def cutting_Check_k1_S (a1 : Line) (x7 : Bool) : St :=
 ⟨[(1, vp 0 0), (33, vb x7)], [(0, bx 64 (e_Line a1))]⟩

set_option maxRecDepth 100000 in
theorem cutting_Check_L2_ok (E : Env 0) (a1 : Line) : ∀ (n : Nat) (x9 : Int) (res : Int ⊕ Unit), cutting_Check_L2 a1 n x9 = some res → HL (kx E 66 0) (nd Tryd.f67 244) (loopQ 0 (fun o => cutting_Check_L2_T a1) (fun v st => RetQ Tryd.prog Tryd.f67 (cutting_Check_x v) (cutting_Check_o v) .ret st) res) n (cutting_Check_L2_S a1 x9) := by
 intro n
 induction n with
 | zero =>
  intro x9 res hm
  cases hm
 | succ n ih =>
  intro x9 res hm
  refine HL_succ ?_
  refine q_sq ?_
  refine q_vu [] 1 [] [(38, vb (decide (x9 < ((a1.Gain.length : Nat) : Int))))] [] [] ?_
  refine q_sq ?_
  refine q_cn (decide (x9 < ((a1.Gain.length : Nat) : Int))) (fun b10 => ?_) (fun b10 => ?_)
  ·replace hm := bif_t b10 hm
   refine q_sk ?_
   refine q_sq ?_
   refine q_bk 1 ?_
   refine q_sq ?_
   obtain ⟨g11, hm⟩ := bif_n hm
   refine q_vu [qd 1 (Dir.none) (inb_of g11)] 1 [38] [(4, vi x9), (5, vc (tl e_i64 default (a1.Gain.getD x9.toNat default)))] [] [] ?_
   refine q_sq ?_
   obtain ⟨g12, hm⟩ := bif_n hm
   obtain ⟨v13, h14, hm⟩ := bind_s hm
   refine q_du [qd 6 (Dir.none) (inb_of g12), qc 8 [44, 49] 1 (cutting_places_ok a1 (a1.Sizes.getD x9.toNat default) v13 h14)] [0, 1, 0, 0, 8, 0, 56, 120, 252, 511] 1 [4, 5] [(51, vb ((((a1.Gain.getD x9.toNat default).length : Nat) : Int) != v13))] [] [] ?_
   refine q_cn ((((a1.Gain.getD x9.toNat default).length : Nat) : Int) != v13) (fun b15 => ?_) (fun b15 => ?_)
   ·replace hm := bif_t b15 hm
    refine q_sq ?_
    refine q_vn [] 1 ⟨[(2, vi 19)], []⟩ ?_
    obtain rfl := Option.some.inj hm
    refine q_rt ?_
    refine L1_ret 19 ?_
    exact q_rm
   ·replace hm := bif_f b15 hm
    refine q_sk ?_
    refine q_vu [] 1 [37, 51] [(37, vi (w64 (x9 + 1)))] [] [] ?_
    exact q_hl (cutting_Check_L2_S a1 (w64 (x9 + 1))) (ih (w64 (x9 + 1)) _ hm)
  ·replace hm := bif_f b10 hm
   refine q_ex 0 ?_
   obtain rfl := Option.some.inj hm
   exact L1_mk () (by kernel_rfl) (by kernel_rfl)

set_option maxRecDepth 100000 in
theorem cutting_Check_ok (a1 : Line) (r : Int) (hm : cutting_Check a1 = some r) : CtX Tryd.prog globs 67 0 0 [.agg (e_Line a1)] [] (cutting_Check_x r) (cutting_Check_o r) := by
 unfold cutting_Check at hm
 refine q_E Tryd.f67 66 fun E => ?_
 refine q_sq ?_
 refine q_vn [] 0 ⟨[(1, vp 0 0)], [(0, bx 64 (e_Line a1))]⟩ ?_
 refine q_sq ?_
 refine q_sq ?_
 obtain ⟨v2, h3, hm⟩ := bind_s hm
 refine q_vu [qc 1 [6] 1 (cutting_measures_ok a1 v2 h3)] 1 [] [(3, vi v2)] [] [] ?_
 refine q_sq ?_
 refine q_vu [] 1 [] [(9, vb (v2 != 0))] [] [] ?_
 refine q_cn (v2 != 0) (fun b4 => ?_) (fun b4 => ?_)
 ·replace hm := bif_t b4 hm
  refine q_sq ?_
  refine q_vn [] 1 ⟨[(2, vi v2)], []⟩ ?_
  obtain rfl := Option.some.inj hm
  refine q_rt ?_
  exact q_rm
 ·replace hm := bif_f b4 hm
  refine q_sk ?_
  refine q_sq ?_
  refine q_jn (ι := Bool) (fun p => cutting_Check_k1_S a1 p) (fun p => cutting_Check_k1 a1 p = some r) ?_ ?_
  ·rintro x7 hm
   show H _ (cutting_Check_k1_S a1 x7) _ _
   refine q_cn x7 (fun b8 => ?_) (fun b8 => ?_)
   ·replace hm := bif_t b8 hm
    refine q_sq ?_
    refine q_vn [] 1 ⟨[(2, vi 19)], []⟩ ?_
    obtain rfl := Option.some.inj hm
    refine q_rt ?_
    exact q_rm
   ·replace hm := bif_f b8 hm
    refine q_sk ?_
    refine q_sq ?_
    refine q_sq ?_
    refine q_vu [] 1 [33] [(35, vc (tl (e_lst e_i64) default a1.Gain)), (36, vi ((a1.Gain.length : Nat) : Int)), (37, vi 0)] [] [] ?_
    obtain ⟨u18, h17, hm⟩ := bind_s hm
    refine R_loop1 (nd Tryd.f67 244) 0 (by kernel_rfl) FUEL (fun o => cutting_Check_L2_T a1) (fun v st => RetQ Tryd.prog Tryd.f67 (cutting_Check_x v) (cutting_Check_o v) .ret st) u18 (q_hl (cutting_Check_L2_S a1 0) (cutting_Check_L2_ok E a1 FUEL 0 u18 h17)) ?_ ?_
    ·rintro v19 rfl st hr
     obtain rfl := Option.some.inj hm
     exact hr
    ·rintro o16 rfl
     replace hm : _ = some r := hm
     refine q_sq ?_
     refine q_jn (ι := Bool) (fun p => cutting_Check_k3_S p) (fun p => cutting_Check_k3 p = some r) ?_ ?_
     ·rintro x25 hm
      show H _ (cutting_Check_k3_S x25) _ _
      refine q_cn x25 (fun b26 => ?_) (fun b26 => ?_)
      ·replace hm := bif_t b26 hm
       refine q_sq ?_
       refine q_vn [] 2 ⟨[(2, vi 9)], []⟩ ?_
       obtain rfl := Option.some.inj hm
       refine q_rt ?_
       exact q_rm
      ·replace hm := bif_f b26 hm
       refine q_sk ?_
       refine q_sq ?_
       refine q_vn [] 2 ⟨[(2, vi 0)], []⟩ ?_
       obtain rfl := Option.some.inj hm
       refine q_rt ?_
       exact q_rm
     ·obtain ⟨v20, h21, hm⟩ := bind_s hm
      rcases Bool.eq_false_or_eq_true (!v20) with b22 | b22
      ·replace hm := bif_t b22 hm
       refine q_vn [qc 2 [54] 1 (cutting_small_ok a1.Gain v20 h21), qf 4 b22] 1 ⟨[(65, vb true)], []⟩ ?_
       exact q_J (true) hm
      ·replace hm := bif_f b22 hm
       obtain ⟨v23, h24, hm⟩ := bind_s hm
       refine q_vn [qc 2 [54] 1 (cutting_small_ok a1.Gain v20 h21), qf 4 b22, qd 9 (drw 1 0 (rf (e_lst e_i64) ([a1.Chip, a1.Dust] : List (List Int)))) (litP (e_lst e_i64) default 1 (fun _ => rfl) ([a1.Chip, a1.Dust] : List (List Int)) 2 rfl), qd 10 (dex (cen [] [] 2 0 (cutting_small_x v23) (cutting_small_o v23) [57, 62] [1])) (callS (K := (kx E 66 0)) (xs' := [.one (.lst 2 (rf (e_lst e_i64) ([a1.Chip, a1.Dust] : List (List Int))))]) (b := false) ⟨[(57, vb false), (62, vo 1 0 1 2)], [(1, ro 0 25 1 2 (rf (e_lst e_i64) ([a1.Chip, a1.Dust] : List (List Int))))]⟩ (opAt (rg Tryd.f67 124) 10) [] [] 2 (o1 (Nat.le_refl 2)) (by simp only [tl, rf, show ([a1.Chip, a1.Dust] : List (List Int)).length = 2 from rfl]) (cutting_small_ok ([a1.Chip, a1.Dust] : List (List Int)) v23 h24) (.inr ⟨(by kernel_rfl), cutting_small_f v23⟩) (by kernel_rfl))] 1 ⟨[(65, vb (!v23))], []⟩ ?_
       exact q_J (!v23) hm
  ·rcases Bool.eq_false_or_eq_true (((a1.Gain.length : Nat) : Int) != ((a1.Sizes.length : Nat) : Int)) with b5 | b5
   ·replace hm := bif_t b5 hm
    refine q_vu [qf 7 b5] 1 [3, 9] [(33, vb true)] [] [] ?_
    exact q_J (true) hm
   ·replace hm := bif_f b5 hm
    rcases Bool.eq_false_or_eq_true (((a1.Chip.length : Nat) : Int) != a1.Len) with b6 | b6
    ·replace hm := bif_t b6 hm
     refine q_vu [qf 7 b5, qf 15 b6] 1 [3, 9] [(33, vb true)] [] [] ?_
     exact q_J (true) hm
    ·replace hm := bif_f b6 hm
     refine q_vu [qf 7 b5, qf 15 b6] 1 [3, 9] [(33, vb (((a1.Dust.length : Nat) : Int) != a1.Len))] [] [] ?_
     exact q_J (((a1.Dust.length : Nat) : Int) != a1.Len) hm

end Saw
end Go.SL
