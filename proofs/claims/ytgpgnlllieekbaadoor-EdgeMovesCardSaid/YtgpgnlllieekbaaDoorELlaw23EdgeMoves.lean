import Derived.Test.YtgpgnlllieekbaaDoorEBase
import Derived.Test.YtgpgnlllieekbaaDoorEFa1
import Derived.Test.YtgpgnlllieekbaaDoorELlaw23awake
import Derived.Test.YtgpgnlllieekbaaDoorELs
import Derived.Test.YtgpgnlllieekbaaDoorELlaw23Small
set_option linter.unusedVariables false
set_option linter.unusedSimpArgs false
namespace Go.SL
namespace Saw
open Go.Proofs
set_option maxHeartbeats 4000000

def law23_EdgeMoves_x (r : Bool) : V := vb r

def law23_EdgeMoves_o (r : Bool) : List (Nat × (Nat × O)) := []

theorem law23_EdgeMoves_f (r : Bool) : Frozen (law23_EdgeMoves_o r) := by
 intro i k o h
 unfold law23_EdgeMoves_o at h
 cases h

def law23_EdgeMoves_L2_S (a1 : Law23_Given) (a2 : Int) (x11 : Int) (l12 : List Slice) (l12n : Nat) : St :=
 ⟨[(1, vi a2), (2, vp 0 0), (5, vp 1 0), (6, vi x11)], [(0, bx 41 (e_Law23_Given a1)), (1, bx 41 [.own 2 0 3 l12n, .emp, tl e_Product default a1.Products, ci a1.Strip.X.A, ci a1.Strip.X.B, ci a1.Strip.Y.A, ci a1.Strip.Y.B, ci a1.Saw.Kerf, ci a1.Saw.Trim, ci a1.Saw.Pitch, ci a1.Saw.Step, ci a1.Rates.Chip, ci a1.Rates.Dust, ci a1.Rates.Fine]), (2, ro 0 54 3 l12n (rf e_Slice l12))]⟩

def law23_EdgeMoves_L2_T (a1 : Law23_Given) (a2 : Int) (l18 : List Slice) : St :=
 ⟨[(1, vi a2), (2, vp 0 0), (5, vp 1 0)], [(0, bx 41 (e_Law23_Given a1)), (1, bx 41 [.own 2 0 3 l18.length, .emp, tl e_Product default a1.Products, ci a1.Strip.X.A, ci a1.Strip.X.B, ci a1.Strip.Y.A, ci a1.Strip.Y.B, ci a1.Saw.Kerf, ci a1.Saw.Trim, ci a1.Saw.Pitch, ci a1.Saw.Step, ci a1.Rates.Chip, ci a1.Rates.Dust, ci a1.Rates.Fine]), (2, ro 0 54 3 l18.length (rf e_Slice l18))]⟩

def law23_EdgeMoves_k4_S (a1 : Law23_Given) (a2 : Int) (o19 : (List Slice)) (x21 : Int) (l22 : List Defect) (x26 : Bool) : St :=
 ⟨[(1, vi a2), (2, vp 0 0), (5, vp 1 0), (7, vi x21), (8, vp 4 0), (80, vb x26)], [(0, bx 41 (e_Law23_Given a1)), (1, bx 41 [.own 2 0 3 o19.length, .own 3 0 7 l22.length, tl e_Product default a1.Products, ci a1.Strip.X.A, ci a1.Strip.X.B, ci a1.Strip.Y.A, ci a1.Strip.Y.B, ci a1.Saw.Kerf, ci a1.Saw.Trim, ci a1.Saw.Pitch, ci a1.Saw.Step, ci a1.Rates.Chip, ci a1.Rates.Dust, ci a1.Rates.Fine]), (2, ro 0 54 3 o19.length (rf e_Slice o19)), (3, ro 0 59 7 l22.length (rf e_Defect l22)), (4, bx 59 [ci ((a1.Defects.getD x21.toNat default).Kind), ci ((((a1.Defects.getD x21.toNat default).Box).X).A), ci ((((a1.Defects.getD x21.toNat default).Box).X).B), ci ((((a1.Defects.getD x21.toNat default).Box).Y).A), ci ((((a1.Defects.getD x21.toNat default).Box).Y).B), ci ((((a1.Defects.getD x21.toNat default).Box).Z).A), ci ((((a1.Defects.getD x21.toNat default).Box).Z).B)])]⟩

def law23_EdgeMoves_L3_S (a1 : Law23_Given) (a2 : Int) (o19 : (List Slice)) (x21 : Int) (l22 : List Defect) (l22n : Nat) : St :=
 ⟨[(1, vi a2), (2, vp 0 0), (5, vp 1 0), (7, vi x21)], [(0, bx 41 (e_Law23_Given a1)), (1, bx 41 [.own 2 0 3 o19.length, .own 3 0 7 l22n, tl e_Product default a1.Products, ci a1.Strip.X.A, ci a1.Strip.X.B, ci a1.Strip.Y.A, ci a1.Strip.Y.B, ci a1.Saw.Kerf, ci a1.Saw.Trim, ci a1.Saw.Pitch, ci a1.Saw.Step, ci a1.Rates.Chip, ci a1.Rates.Dust, ci a1.Rates.Fine]), (2, ro 0 54 3 o19.length (rf e_Slice o19)), (3, ro 0 59 7 l22n (rf e_Defect l22))]⟩

def law23_EdgeMoves_L3_T (a1 : Law23_Given) (a2 : Int) (o19 : (List Slice)) (l31 : List Defect) : St :=
 ⟨[(1, vi a2), (2, vp 0 0), (5, vp 1 0)], [(0, bx 41 (e_Law23_Given a1)), (1, bx 41 [.own 2 0 3 o19.length, .own 3 0 7 l31.length, tl e_Product default a1.Products, ci a1.Strip.X.A, ci a1.Strip.X.B, ci a1.Strip.Y.A, ci a1.Strip.Y.B, ci a1.Saw.Kerf, ci a1.Saw.Trim, ci a1.Saw.Pitch, ci a1.Saw.Step, ci a1.Rates.Chip, ci a1.Rates.Dust, ci a1.Rates.Fine]), (2, ro 0 54 3 o19.length (rf e_Slice o19)), (3, ro 0 59 7 l31.length (rf e_Defect l31))]⟩

def law23_EdgeMoves_k5_S (x49 : Bool) : St :=
 ⟨[(4, vb x49)], []⟩

def law23_EdgeMoves_k1_S (a1 : Law23_Given) (a2 : Int) (x7 : Bool) : St :=
 ⟨[(1, vi a2), (2, vp 0 0), (25, vb x7)], [(0, bx 41 (e_Law23_Given a1))]⟩

set_option maxRecDepth 100000 in
theorem law23_EdgeMoves_L2_ok (E : Env 0) (a1 : Law23_Given) (a2 : Int) : ∀ (n : Nat) (x11 : Int) (l12 : List Slice) (l12n : Nat) (res : (List Slice)), l12.length = l12n → law23_EdgeMoves_L2 a1 a2 n x11 l12 = some res → HL (kx E 144 0) (nd Tryd.f5 1012) (loopQ0 0 (fun o => law23_EdgeMoves_L2_T a1 a2 o) res) n (law23_EdgeMoves_L2_S a1 a2 x11 l12 l12n) := by
 intro n
 induction n with
 | zero =>
  intro x11 l12 l12n res hl0 hm
  cases hm
 | succ n ih =>
  intro x11 l12 l12n res hl0 hm
  subst hl0
  refine HL_succ ?_
  refine q_sq ?_
  refine q_sq ?_
  refine q_vu [] 3 [] [(34, vb (decide (x11 < ((a1.Solid.length : Nat) : Int))))] [] [] ?_
  refine q_cn (decide (x11 < ((a1.Solid.length : Nat) : Int))) (fun b13 => ?_) (fun b13 => ?_)
  ·replace hm := bif_t b13 hm
   refine q_sk ?_
   refine q_sq ?_
   refine q_bk 1 ?_
   obtain ⟨g14, hm⟩ := bif_n hm
   obtain ⟨v15, h16, hm⟩ := bind_s hm
   obtain ⟨g17, hm⟩ := bif_n hm
   refine q_du [qd 5 (Dir.none) (inb_of g14), qd 11 (Dir.none) (inb_of g14), qk 15 [50, 51] 3 ⟨[(50, va [ci (((a1.Solid.getD x11.toNat default).Sec).Low), tl e_Span default (((a1.Solid.getD x11.toNat default).Sec).Rows)]), (51, vi a2)], []⟩ (section_Shift_ok ((a1.Solid.getD x11.toNat default).Sec) a2 0 v15 h16), qd 17 (drw 3 0 (rf e_Slice ([(Slice.mk ((a1.Solid.getD x11.toNat default).Len) v15)] : List Slice))) (litP e_Slice default 3 (fun _ => rfl) ([(Slice.mk ((a1.Solid.getD x11.toNat default).Len) v15)] : List Slice) 1 rfl), qd 18 (drw 2 1 (rf e_Slice (l12 ++ ([(Slice.mk ((a1.Solid.getD x11.toNat default).Len) v15)] : List Slice)))) (apP e_Slice default l12 ([(Slice.mk ((a1.Solid.getD x11.toNat default).Len) v15)] : List Slice) l12.length 1 3 40 (1 ≤ 1) (Nat.le_refl _) rfl rfl (fun _ => rfl) (room_of g17))] [0, 1, 0, 4, 0, 28, 60, 124, 0, 256, 0, 1792, 3840, 7936, 0, 32512, 65532, 131068, 262143, 524287, 1048575] 3 [34] [] [1, 2] [(1, bx 41 [.own 2 1 3 (l12.length + 1), .emp, tl e_Product default a1.Products, ci a1.Strip.X.A, ci a1.Strip.X.B, ci a1.Strip.Y.A, ci a1.Strip.Y.B, ci a1.Saw.Kerf, ci a1.Saw.Trim, ci a1.Saw.Pitch, ci a1.Saw.Step, ci a1.Rates.Chip, ci a1.Rates.Dust, ci a1.Rates.Fine]), (2, ro 1 54 3 (l12.length + 1) (rf e_Slice (l12 ++ ([(Slice.mk ((a1.Solid.getD x11.toNat default).Len) v15)] : List Slice))))] ?_
   refine q_vu [] 4 [6] [(6, vi (w64 (x11 + 1)))] [] [] ?_
   exact q_hl (law23_EdgeMoves_L2_S a1 a2 (w64 (x11 + 1)) (l12 ++ ([(Slice.mk ((a1.Solid.getD x11.toNat default).Len) v15)] : List Slice)) (l12.length + 1)) (ih (w64 (x11 + 1)) (l12 ++ ([(Slice.mk ((a1.Solid.getD x11.toNat default).Len) v15)] : List Slice)) (l12.length + 1) _ (len_app rfl rfl) hm)
  ·replace hm := bif_f b13 hm
   refine q_ex 0 ?_
   obtain rfl := Option.some.inj hm
   exact L0_mk (by kernel_rfl) (by kernel_rfl)

set_option maxRecDepth 100000 in
theorem law23_EdgeMoves_L3_ok (E : Env 0) (a1 : Law23_Given) (a2 : Int) (o19 : (List Slice)) : ∀ (n : Nat) (x21 : Int) (l22 : List Defect) (l22n : Nat) (res : Bool ⊕ (List Defect)), l22.length = l22n → law23_EdgeMoves_L3 a1 a2 n x21 l22 = some res → HL (kx E 144 0) (nd Tryd.f5 2036) (loopQ 2 (fun o => law23_EdgeMoves_L3_T a1 a2 o19 o) (fun v st => RetQ Tryd.prog Tryd.f5 (law23_EdgeMoves_x v) (law23_EdgeMoves_o v) .ret st) res) n (law23_EdgeMoves_L3_S a1 a2 o19 x21 l22 l22n) := by
 intro n
 induction n with
 | zero =>
  intro x21 l22 l22n res hl0 hm
  cases hm
 | succ n ih =>
  intro x21 l22 l22n res hl0 hm
  subst hl0
  refine HL_succ ?_
  refine q_sq ?_
  refine q_sq ?_
  refine q_vu [] 4 [] [(61, vb (decide (x21 < ((a1.Defects.length : Nat) : Int))))] [] [] ?_
  refine q_cn (decide (x21 < ((a1.Defects.length : Nat) : Int))) (fun b23 => ?_) (fun b23 => ?_)
  ·replace hm := bif_t b23 hm
   refine q_sk ?_
   refine q_sq ?_
   refine q_bk 3 ?_
   refine q_sq ?_
   obtain ⟨g24, hm⟩ := bif_n hm
   refine q_vu [qd 3 (Dir.none) (inb_of g24)] 4 [61] [(8, vp 4 0)] [] [(4, bx 59 [ci ((a1.Defects.getD x21.toNat default).Kind), ci ((((a1.Defects.getD x21.toNat default).Box).X).A), ci ((((a1.Defects.getD x21.toNat default).Box).X).B), ci ((((a1.Defects.getD x21.toNat default).Box).Y).A), ci ((((a1.Defects.getD x21.toNat default).Box).Y).B), ci ((((a1.Defects.getD x21.toNat default).Box).Z).A), ci ((((a1.Defects.getD x21.toNat default).Box).Z).B)])] ?_
   refine q_sq ?_
   refine q_jn (ι := Bool) (fun p => law23_EdgeMoves_k4_S a1 a2 o19 x21 l22 p) (fun p => law23_EdgeMoves_k4 a1 a2 x21 l22 (law23_EdgeMoves_L3 a1 a2 n) p = some res) ?_ ?_
   ·rintro x26 hm
    show H _ (law23_EdgeMoves_k4_S a1 a2 o19 x21 l22 x26) _ _
    refine q_cn x26 (fun b27 => ?_) (fun b27 => ?_)
    ·replace hm := bif_t b27 hm
     refine q_sq ?_
     obtain ⟨v28, h29, hm⟩ := bind_s hm
     refine q_vn [qc 0 [] 5 (law23_awake_ok v28 h29)] 5 ⟨[(4, vb v28)], []⟩ ?_
     obtain rfl := Option.some.inj hm
     refine q_rt ?_
     refine L1_ret v28 ?_
     exact q_rm
    ·replace hm := bif_f b27 hm
     refine q_sk ?_
     refine q_sq ?_
     refine q_vu [] 5 [80] [] [4] [(4, bx 59 [ci ((a1.Defects.getD x21.toNat default).Kind), ci (w64 (((((a1.Defects.getD x21.toNat default).Box).X).A) + a2)), ci (w64 (((((a1.Defects.getD x21.toNat default).Box).X).B) + a2)), ci ((((a1.Defects.getD x21.toNat default).Box).Y).A), ci ((((a1.Defects.getD x21.toNat default).Box).Y).B), ci ((((a1.Defects.getD x21.toNat default).Box).Z).A), ci ((((a1.Defects.getD x21.toNat default).Box).Z).B)])] ?_
     obtain ⟨g30, hm⟩ := bif_n hm
     refine q_vu [qd 3 (drw 5 0 (rf e_Defect ([(Defect.mk ((a1.Defects.getD x21.toNat default).Kind) (Box.mk (Span.mk (w64 (((((a1.Defects.getD x21.toNat default).Box).X).A) + a2)) (w64 (((((a1.Defects.getD x21.toNat default).Box).X).B) + a2))) (((a1.Defects.getD x21.toNat default).Box).Y) (((a1.Defects.getD x21.toNat default).Box).Z)))] : List Defect))) (litP e_Defect default 7 (fun _ => rfl) ([(Defect.mk ((a1.Defects.getD x21.toNat default).Kind) (Box.mk (Span.mk (w64 (((((a1.Defects.getD x21.toNat default).Box).X).A) + a2)) (w64 (((((a1.Defects.getD x21.toNat default).Box).X).B) + a2))) (((a1.Defects.getD x21.toNat default).Box).Y) (((a1.Defects.getD x21.toNat default).Box).Z)))] : List Defect) 1 rfl), qd 4 (drw 3 1 (rf e_Defect (l22 ++ ([(Defect.mk ((a1.Defects.getD x21.toNat default).Kind) (Box.mk (Span.mk (w64 (((((a1.Defects.getD x21.toNat default).Box).X).A) + a2)) (w64 (((((a1.Defects.getD x21.toNat default).Box).X).B) + a2))) (((a1.Defects.getD x21.toNat default).Box).Y) (((a1.Defects.getD x21.toNat default).Box).Z)))] : List Defect)))) (apP e_Defect default l22 ([(Defect.mk ((a1.Defects.getD x21.toNat default).Kind) (Box.mk (Span.mk (w64 (((((a1.Defects.getD x21.toNat default).Box).X).A) + a2)) (w64 (((((a1.Defects.getD x21.toNat default).Box).X).B) + a2))) (((a1.Defects.getD x21.toNat default).Box).Y) (((a1.Defects.getD x21.toNat default).Box).Z)))] : List Defect) l22.length 1 7 56 (1 ≤ 1) (Nat.le_refl _) rfl rfl (fun _ => rfl) (room_of g30))] 5 [8] [] [1, 3, 4] [(1, bx 41 [.own 2 0 3 o19.length, .own 3 1 7 (l22.length + 1), tl e_Product default a1.Products, ci a1.Strip.X.A, ci a1.Strip.X.B, ci a1.Strip.Y.A, ci a1.Strip.Y.B, ci a1.Saw.Kerf, ci a1.Saw.Trim, ci a1.Saw.Pitch, ci a1.Saw.Step, ci a1.Rates.Chip, ci a1.Rates.Dust, ci a1.Rates.Fine]), (3, ro 1 59 7 (l22.length + 1) (rf e_Defect (l22 ++ ([(Defect.mk ((a1.Defects.getD x21.toNat default).Kind) (Box.mk (Span.mk (w64 (((((a1.Defects.getD x21.toNat default).Box).X).A) + a2)) (w64 (((((a1.Defects.getD x21.toNat default).Box).X).B) + a2))) (((a1.Defects.getD x21.toNat default).Box).Y) (((a1.Defects.getD x21.toNat default).Box).Z)))] : List Defect))))] ?_
     refine q_vu [] 6 [7] [(7, vi (w64 (x21 + 1)))] [] [] ?_
     exact q_hl (law23_EdgeMoves_L3_S a1 a2 o19 (w64 (x21 + 1)) (l22 ++ ([(Defect.mk ((a1.Defects.getD x21.toNat default).Kind) (Box.mk (Span.mk (w64 (((((a1.Defects.getD x21.toNat default).Box).X).A) + a2)) (w64 (((((a1.Defects.getD x21.toNat default).Box).X).B) + a2))) (((a1.Defects.getD x21.toNat default).Box).Y) (((a1.Defects.getD x21.toNat default).Box).Z)))] : List Defect)) (l22.length + 1)) (ih (w64 (x21 + 1)) (l22 ++ ([(Defect.mk ((a1.Defects.getD x21.toNat default).Kind) (Box.mk (Span.mk (w64 (((((a1.Defects.getD x21.toNat default).Box).X).A) + a2)) (w64 (((((a1.Defects.getD x21.toNat default).Box).X).B) + a2))) (((a1.Defects.getD x21.toNat default).Box).Y) (((a1.Defects.getD x21.toNat default).Box).Z)))] : List Defect)) (l22.length + 1) _ (len_app rfl rfl) hm)
   ·rcases Bool.eq_false_or_eq_true (decide (((((a1.Defects.getD x21.toNat default).Box).X).A) < (-600))) with b25 | b25
    ·replace hm := bif_t b25 hm
     refine q_vu [qf 5 b25] 5 [] [(80, vb true)] [] [] ?_
     exact q_J (true) hm
    ·replace hm := bif_f b25 hm
     refine q_vu [qf 5 b25] 5 [] [(75, vp 4 1), (76, vp 4 1), (77, vp 4 2), (78, vi ((((a1.Defects.getD x21.toNat default).Box).X).B)), (79, vb (decide (((((a1.Defects.getD x21.toNat default).Box).X).B) > 600))), (80, vb (decide (((((a1.Defects.getD x21.toNat default).Box).X).B) > 600)))] [] [] ?_
     exact q_J (decide (((((a1.Defects.getD x21.toNat default).Box).X).B) > 600)) hm
  ·replace hm := bif_f b23 hm
   refine q_ex 2 ?_
   obtain rfl := Option.some.inj hm
   exact L1_mk l22 (by kernel_rfl) (by kernel_rfl)

set_option maxRecDepth 100000 in
theorem law23_EdgeMoves_ok (a1 : Law23_Given) (a2 : Int) (r : Bool) (hm : law23_EdgeMoves a1 a2 = some r) : CtX Tryd.prog globs 5 0 0 [.agg (e_Law23_Given a1), .one (ci a2)] [] (law23_EdgeMoves_x r) (law23_EdgeMoves_o r) := by
 unfold law23_EdgeMoves at hm
 refine q_E Tryd.f5 144 fun E => ?_
 refine q_sq ?_
 refine q_vn [] 0 ⟨[(1, vi a2), (2, vp 0 0)], [(0, bx 41 (e_Law23_Given a1))]⟩ ?_
 refine q_sq ?_
 refine q_jn (ι := Bool) (fun p => law23_EdgeMoves_k1_S a1 a2 p) (fun p => law23_EdgeMoves_k1 a1 a2 p = some r) ?_ ?_
 ·rintro x7 hm
  show H _ (law23_EdgeMoves_k1_S a1 a2 x7) _ _
  refine q_cn x7 (fun b8 => ?_) (fun b8 => ?_)
  ·replace hm := bif_t b8 hm
   refine q_sq ?_
   obtain ⟨v9, h10, hm⟩ := bind_s hm
   refine q_vn [qc 0 [] 1 (law23_awake_ok v9 h10)] 1 ⟨[(4, vb v9)], []⟩ ?_
   obtain rfl := Option.some.inj hm
   refine q_rt ?_
   exact q_rm
  ·replace hm := bif_f b8 hm
   refine q_sk ?_
   refine q_sq ?_
   refine q_vu [] 1 [25] [(5, vp 1 0)] [] [(1, bx 41 (e_Law23_Given a1))] ?_
   refine q_sq ?_
   refine q_vu [] 2 [] [] [1] [(1, bx 41 [.emp, tl e_Defect default a1.Defects, tl e_Product default a1.Products, ci a1.Strip.X.A, ci a1.Strip.X.B, ci a1.Strip.Y.A, ci a1.Strip.Y.B, ci a1.Saw.Kerf, ci a1.Saw.Trim, ci a1.Saw.Pitch, ci a1.Saw.Step, ci a1.Rates.Chip, ci a1.Rates.Dust, ci a1.Rates.Fine])] ?_
   refine q_sq ?_
   refine q_vu [] 2 [] [] [1] [(1, bx 41 [.emp, .emp, tl e_Product default a1.Products, ci a1.Strip.X.A, ci a1.Strip.X.B, ci a1.Strip.Y.A, ci a1.Strip.Y.B, ci a1.Saw.Kerf, ci a1.Saw.Trim, ci a1.Saw.Pitch, ci a1.Saw.Step, ci a1.Rates.Chip, ci a1.Rates.Dust, ci a1.Rates.Fine])] ?_
   refine q_sq ?_
   refine q_sq ?_
   refine q_vu [] 2 [] [(6, vi 0)] [] [] ?_
   refine q_fn [.ownB 1 0 2 54 3 (rf e_Slice ([] : List Slice))] ⟨[(1, vi a2), (2, vp 0 0), (5, vp 1 0), (6, vi 0)], [(0, bx 41 (e_Law23_Given a1)), (1, bx 41 [.own 2 0 3 0, .emp, tl e_Product default a1.Products, ci a1.Strip.X.A, ci a1.Strip.X.B, ci a1.Strip.Y.A, ci a1.Strip.Y.B, ci a1.Saw.Kerf, ci a1.Saw.Trim, ci a1.Saw.Pitch, ci a1.Saw.Step, ci a1.Rates.Chip, ci a1.Rates.Dust, ci a1.Rates.Fine]), (2, ro 0 54 3 0 (rf e_Slice ([] : List Slice)))]⟩ o0 ?_
   obtain ⟨o19, h20, hm⟩ := bind_s hm
   refine R_loop0 (nd Tryd.f5 1012) 0 (by kernel_rfl) FUEL (fun o => law23_EdgeMoves_L2_T a1 a2 o) o19 (q_hl (law23_EdgeMoves_L2_S a1 a2 0 ([] : List Slice) 0) (law23_EdgeMoves_L2_ok E a1 a2 FUEL 0 ([] : List Slice) 0 o19 rfl h20)) ?_
   refine q_sq ?_
   refine q_sq ?_
   refine q_vu [] 3 [] [(7, vi 0)] [] [] ?_
   refine q_fn [.ownB 1 1 3 59 7 (rf e_Defect ([] : List Defect))] ⟨[(1, vi a2), (2, vp 0 0), (5, vp 1 0), (7, vi 0)], [(0, bx 41 (e_Law23_Given a1)), (1, bx 41 [.own 2 0 3 o19.length, .own 3 0 7 0, tl e_Product default a1.Products, ci a1.Strip.X.A, ci a1.Strip.X.B, ci a1.Strip.Y.A, ci a1.Strip.Y.B, ci a1.Saw.Kerf, ci a1.Saw.Trim, ci a1.Saw.Pitch, ci a1.Saw.Step, ci a1.Rates.Chip, ci a1.Rates.Dust, ci a1.Rates.Fine]), (2, ro 0 54 3 o19.length (rf e_Slice o19)), (3, ro 0 59 7 0 (rf e_Defect ([] : List Defect)))]⟩ o0 ?_
   obtain ⟨u34, h33, hm⟩ := bind_s hm
   refine R_loop1 (nd Tryd.f5 2036) 2 (by kernel_rfl) FUEL (fun o => law23_EdgeMoves_L3_T a1 a2 o19 o) (fun v st => RetQ Tryd.prog Tryd.f5 (law23_EdgeMoves_x v) (law23_EdgeMoves_o v) .ret st) u34 (q_hl (law23_EdgeMoves_L3_S a1 a2 o19 0 ([] : List Defect) 0) (law23_EdgeMoves_L3_ok E a1 a2 o19 FUEL 0 ([] : List Defect) 0 u34 rfl h33)) ?_ ?_
   ·rintro v35 rfl st hr
    obtain rfl := Option.some.inj hm
    exact hr
   ·rintro o32 rfl
    replace hm : _ = some r := hm
    refine q_sq ?_
    refine q_vu [] 4 [1] [] [1] [(1, bx 41 [.own 2 0 3 o19.length, .own 3 0 7 o32.length, tl e_Product default a1.Products, ci (w64 (a1.Strip.X.A + a2)), ci (w64 (a1.Strip.X.B + a2)), ci a1.Strip.Y.A, ci a1.Strip.Y.B, ci a1.Saw.Kerf, ci a1.Saw.Trim, ci a1.Saw.Pitch, ci a1.Saw.Step, ci a1.Rates.Chip, ci a1.Rates.Dust, ci a1.Rates.Fine])] ?_
    refine q_sq ?_
    obtain ⟨v36, h37, hm⟩ := bind_s hm
    refine q_vu [qc 1 [119] 4 (law23_best_ok a1 v36 h37)] 4 [2] [(10, vi v36.2.1), (11, vi v36.2.2)] [0] [] ?_
    refine q_sq ?_
    obtain ⟨v38, h39, hm⟩ := bind_s hm
    refine q_vu [qd 1 (dex (cen [] [] 5 0 (law23_best_x v38) (law23_best_o v38) [125] [2, 3])) (callS (K := (kx E 144 0)) (b := false) ⟨[(125, va [.own 2 0 3 o19.length, .own 3 0 7 o32.length, tl e_Product default a1.Products, ci (w64 (a1.Strip.X.A + a2)), ci (w64 (a1.Strip.X.B + a2)), ci a1.Strip.Y.A, ci a1.Strip.Y.B, ci a1.Saw.Kerf, ci a1.Saw.Trim, ci a1.Saw.Pitch, ci a1.Saw.Step, ci a1.Rates.Chip, ci a1.Rates.Dust, ci a1.Rates.Fine])], [(2, ro 0 54 3 o19.length (rf e_Slice o19)), (3, ro 0 59 7 o32.length (rf e_Defect o32))]⟩ (opAt (rg Tryd.f5 2046) 1) [] [] 5 (o1 (And.intro (Nat.le_refl o19.length) (Nat.le_refl o32.length))) rfl (law23_best_ok (Law23_Given.mk o19 o32 a1.Products (Rect.mk (Span.mk (w64 (a1.Strip.X.A + a2)) (w64 (a1.Strip.X.B + a2))) a1.Strip.Y) a1.Saw a1.Rates) v38 h39) (.inr ⟨(by kernel_rfl), law23_best_f v38⟩) (by kernel_rfl))] 5 [5] [(13, vi v38.2.1), (14, vi v38.2.2)] [1, 2, 3] [] ?_
    refine q_jn (ι := Bool) (fun p => law23_EdgeMoves_k5_S p) (fun p => law23_EdgeMoves_k5 p = some r) ?_ ?_
    ·rintro x49 hm
     show H _ (law23_EdgeMoves_k5_S x49) _ _
     obtain rfl := Option.some.inj hm
     refine q_rt ?_
     exact q_rm
    ·rcases Bool.eq_false_or_eq_true (v36.2.2 != 0) with b40 | b40
     ·replace hm := bif_t b40 hm
      obtain ⟨v41, h42, hm⟩ := bind_s hm
      refine q_vn [qf 2 b40, qk 12 [141] 6 ⟨[(141, vb true)], []⟩ (law23_awake_ok v41 h42)] 6 ⟨[(4, vb v41)], []⟩ ?_
      exact q_J (v41) hm
     ·replace hm := bif_f b40 hm
      rcases Bool.eq_false_or_eq_true (v38.2.2 != 0) with b43 | b43
      ·replace hm := bif_t b43 hm
       obtain ⟨v44, h45, hm⟩ := bind_s hm
       refine q_vn [qf 2 b40, qf 6 b43, qk 12 [141] 6 ⟨[(141, vb true)], []⟩ (law23_awake_ok v44 h45)] 6 ⟨[(4, vb v44)], []⟩ ?_
       exact q_J (v44) hm
      ·replace hm := bif_f b43 hm
       rcases Bool.eq_false_or_eq_true (v36.2.1 == v38.2.1) with b46 | b46
       ·replace hm := bif_t b46 hm
        obtain ⟨v47, h48, hm⟩ := bind_s hm
        refine q_vn [qf 2 b40, qf 6 b43, qf 11 b46, qk 12 [141] 6 ⟨[(141, vb true)], []⟩ (law23_awake_ok v47 h48)] 6 ⟨[(4, vb v47)], []⟩ ?_
        exact q_J (v47) hm
       ·replace hm := bif_f b46 hm
        refine q_vn [qf 2 b40, qf 6 b43, qf 11 b46] 6 ⟨[(4, vb false)], []⟩ ?_
        exact q_J (false) hm
 ·obtain ⟨v3, h4, hm⟩ := bind_s hm
  rcases Bool.eq_false_or_eq_true (!v3) with b5 | b5
  ·replace hm := bif_t b5 hm
   refine q_vu [qc 1 [15] 1 (law23_Small_ok a1 v3 h4), qf 3 b5] 1 [] [(25, vb true)] [] [] ?_
   exact q_J (true) hm
  ·replace hm := bif_f b5 hm
   rcases Bool.eq_false_or_eq_true (decide (a2 < (-100))) with b6 | b6
   ·replace hm := bif_t b6 hm
    refine q_vu [qc 1 [15] 1 (law23_Small_ok a1 v3 h4), qf 3 b5, qf 7 b6] 1 [] [(25, vb true)] [] [] ?_
    exact q_J (true) hm
   ·replace hm := bif_f b6 hm
    refine q_vu [qc 1 [15] 1 (law23_Small_ok a1 v3 h4), qf 3 b5, qf 7 b6] 1 [] [(25, vb (decide (a2 > 100)))] [] [] ?_
    exact q_J (decide (a2 > 100)) hm

end Saw
end Go.SL
