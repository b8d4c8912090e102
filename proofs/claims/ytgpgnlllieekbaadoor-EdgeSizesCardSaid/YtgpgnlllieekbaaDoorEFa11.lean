import Derived.Test.YtgpgnlllieekbaaDoorEBase
import Derived.Test.YtgpgnlllieekbaaDoorEFa10
import Derived.Test.YtgpgnlllieekbaaDoorEFa9
set_option linter.unusedVariables false
set_option linter.unusedSimpArgs false
namespace Go.SL
namespace Saw
open Go.Proofs
set_option maxHeartbeats 4000000

def cutting_choices_x (r : (List Cutting_choice)) : V := vo 0 0 3 r.length

def cutting_choices_o (r : (List Cutting_choice)) : List (Nat × (Nat × O)) := [(0, ro 0 164 3 r.length (rf e_Cutting_choice r))]

theorem cutting_choices_f (r : (List Cutting_choice)) : Frozen (cutting_choices_o r) := by
  intro i k o h
  unfold cutting_choices_o at h
  rw [look_cons] at h
  split at h
  · cases h; exact fun _ _ => rfl
  · cases h

def cutting_choices_k6_S (a1 : Line) (v2 : (List Int)) (v4 : (List Int)) (l7 : List Cutting_choice) (l8 : List Cutting_choice) (x9 : Int) (v11 : Cutting_choice) (x20 : Int) (x31 : Cutting_choice) : St :=
  ⟨[(1, vp 0 0), (3, vo 1 0 1 v2.length), (4, vo 2 0 1 v4.length), (5, vo 3 0 3 l7.length), (6, vo 4 0 3 l8.length), (7, vi x9), (8, vp 5 0), (10, vi x20)], [(0, bx 64 [ci a1.Len, ci a1.Kerf, ci a1.Pitch, tl e_i64 default a1.Sizes, tl (e_lst e_i64) default a1.Gain, tl e_i64 default a1.Chip, tl e_i64 default a1.Dust]), (1, ro 0 3 1 v2.length (rf e_i64 v2)), (2, ro 0 3 1 v4.length (rf e_i64 v4)), (3, ro 0 164 3 l7.length (rf e_Cutting_choice l7)), (4, ro 0 164 3 l8.length (rf e_Cutting_choice (l8.set x9.toNat v11))), (5, bx 164 [ci x31.piece.Size, ci x31.piece.At, ci x31.value])]⟩

def cutting_choices_k5_S (a1 : Line) (v2 : (List Int)) (v4 : (List Int)) (l7 : List Cutting_choice) (l8 : List Cutting_choice) (x9 : Int) (v11 : Cutting_choice) (x20 : Int) (x21 : Cutting_choice) (x29 : Bool) : St :=
  ⟨[(1, vp 0 0), (3, vo 1 0 1 v2.length), (4, vo 2 0 1 v4.length), (5, vo 3 0 3 l7.length), (6, vo 4 0 3 l8.length), (7, vi x9), (8, vp 5 0), (10, vi x20), (11, vp 7 0), (125, vb x29)], [(0, bx 64 [ci a1.Len, ci a1.Kerf, ci a1.Pitch, tl e_i64 default a1.Sizes, tl (e_lst e_i64) default a1.Gain, tl e_i64 default a1.Chip, tl e_i64 default a1.Dust]), (1, ro 0 3 1 v2.length (rf e_i64 v2)), (2, ro 0 3 1 v4.length (rf e_i64 v4)), (3, ro 0 164 3 l7.length (rf e_Cutting_choice l7)), (4, ro 0 164 3 l8.length (rf e_Cutting_choice (l8.set x9.toNat v11))), (5, bx 164 [ci x21.piece.Size, ci x21.piece.At, ci x21.value]), (7, bx 164 [ci ((((l8.set x9.toNat v11).getD x20.toNat default).piece).Size), ci ((((l8.set x9.toNat v11).getD x20.toNat default).piece).At), ci (w64 ((((l8.set x9.toNat v11).getD x20.toNat default).value) + (w64 ((w64 ((w64 ((v2.getD ((w64 (x20 - a1.Kerf)).toNat) default) - (v2.getD x9.toNat default))) + (v4.getD x20.toNat default))) - (v4.getD ((w64 (x20 - a1.Kerf)).toNat) default)))))])]⟩

def cutting_choices_L4_S (a1 : Line) (v2 : (List Int)) (v4 : (List Int)) (l7 : List Cutting_choice) (l8 : List Cutting_choice) (x9 : Int) (v11 : Cutting_choice) (x20 : Int) (x21 : Cutting_choice) : St :=
  ⟨[(1, vp 0 0), (3, vo 1 0 1 v2.length), (4, vo 2 0 1 v4.length), (5, vo 3 0 3 l7.length), (6, vo 4 0 3 l8.length), (7, vi x9), (8, vp 5 0), (10, vi x20)], [(0, bx 64 [ci a1.Len, ci a1.Kerf, ci a1.Pitch, tl e_i64 default a1.Sizes, tl (e_lst e_i64) default a1.Gain, tl e_i64 default a1.Chip, tl e_i64 default a1.Dust]), (1, ro 0 3 1 v2.length (rf e_i64 v2)), (2, ro 0 3 1 v4.length (rf e_i64 v4)), (3, ro 0 164 3 l7.length (rf e_Cutting_choice l7)), (4, ro 0 164 3 l8.length (rf e_Cutting_choice (l8.set x9.toNat v11))), (5, bx 164 [ci x21.piece.Size, ci x21.piece.At, ci x21.value])]⟩

def cutting_choices_L4_T (a1 : Line) (v2 : (List Int)) (v4 : (List Int)) (l7 : List Cutting_choice) (l8 : List Cutting_choice) (x9 : Int) (v11 : Cutting_choice) (x32 : Cutting_choice) : St :=
  ⟨[(1, vp 0 0), (3, vo 1 0 1 v2.length), (4, vo 2 0 1 v4.length), (5, vo 3 0 3 l7.length), (6, vo 4 0 3 l8.length), (7, vi x9), (8, vp 5 0)], [(0, bx 64 [ci a1.Len, ci a1.Kerf, ci a1.Pitch, tl e_i64 default a1.Sizes, tl (e_lst e_i64) default a1.Gain, tl e_i64 default a1.Chip, tl e_i64 default a1.Dust]), (1, ro 0 3 1 v2.length (rf e_i64 v2)), (2, ro 0 3 1 v4.length (rf e_i64 v4)), (3, ro 0 164 3 l7.length (rf e_Cutting_choice l7)), (4, ro 0 164 3 l8.length (rf e_Cutting_choice (l8.set x9.toNat v11))), (5, bx 164 [ci x32.piece.Size, ci x32.piece.At, ci x32.value])]⟩

def cutting_choices_k3_S (a1 : Line) (v2 : (List Int)) (v4 : (List Int)) (l7 : List Cutting_choice) (l8 : List Cutting_choice) (x9 : Int) (v11 : Cutting_choice) (x19 : Cutting_choice) : St :=
  ⟨[(1, vp 0 0), (3, vo 1 0 1 v2.length), (4, vo 2 0 1 v4.length), (5, vo 3 0 3 l7.length), (6, vo 4 0 3 l8.length), (7, vi x9), (8, vp 5 0)], [(0, bx 64 [ci a1.Len, ci a1.Kerf, ci a1.Pitch, tl e_i64 default a1.Sizes, tl (e_lst e_i64) default a1.Gain, tl e_i64 default a1.Chip, tl e_i64 default a1.Dust]), (1, ro 0 3 1 v2.length (rf e_i64 v2)), (2, ro 0 3 1 v4.length (rf e_i64 v4)), (3, ro 0 164 3 l7.length (rf e_Cutting_choice l7)), (4, ro 0 164 3 l8.length (rf e_Cutting_choice (l8.set x9.toNat v11))), (5, bx 164 [ci x19.piece.Size, ci x19.piece.At, ci x19.value])]⟩

def cutting_choices_k2_S (a1 : Line) (v2 : (List Int)) (v4 : (List Int)) (l7 : List Cutting_choice) (l8 : List Cutting_choice) (x9 : Int) (v11 : Cutting_choice) (x17 : Bool) : St :=
  ⟨[(1, vp 0 0), (3, vo 1 0 1 v2.length), (4, vo 2 0 1 v4.length), (5, vo 3 0 3 l7.length), (6, vo 4 0 3 l8.length), (7, vi x9), (8, vp 5 0), (9, vp 6 0), (67, vb x17)], [(0, bx 64 [ci a1.Len, ci a1.Kerf, ci a1.Pitch, tl e_i64 default a1.Sizes, tl (e_lst e_i64) default a1.Gain, tl e_i64 default a1.Chip, tl e_i64 default a1.Dust]), (1, ro 0 3 1 v2.length (rf e_i64 v2)), (2, ro 0 3 1 v4.length (rf e_i64 v4)), (3, ro 0 164 3 l7.length (rf e_Cutting_choice l7)), (4, ro 0 164 3 l8.length (rf e_Cutting_choice (l8.set x9.toNat v11))), (5, bx 164 [ci (-1), ci (-1), ci (w64 ((v2.getD a1.Len.toNat default) - (v2.getD x9.toNat default)))]), (6, bx 164 [ci ((((l8.set x9.toNat v11).getD x9.toNat default).piece).Size), ci ((((l8.set x9.toNat v11).getD x9.toNat default).piece).At), ci (((l8.set x9.toNat v11).getD x9.toNat default).value)])]⟩

def cutting_choices_L1_S (a1 : Line) (v2 : (List Int)) (v4 : (List Int)) (l7 : List Cutting_choice) (l7n : Nat) (l8 : List Cutting_choice) (l8n : Nat) (x9 : Int) : St :=
  ⟨[(1, vp 0 0), (3, vo 1 0 1 v2.length), (4, vo 2 0 1 v4.length), (5, vo 3 0 3 l7n), (6, vo 4 0 3 l8n), (7, vi x9)], [(0, bx 64 [ci a1.Len, ci a1.Kerf, ci a1.Pitch, tl e_i64 default a1.Sizes, tl (e_lst e_i64) default a1.Gain, tl e_i64 default a1.Chip, tl e_i64 default a1.Dust]), (1, ro 0 3 1 v2.length (rf e_i64 v2)), (2, ro 0 3 1 v4.length (rf e_i64 v4)), (3, ro 0 164 3 l7n (rf e_Cutting_choice l7)), (4, ro 0 164 3 l8n (rf e_Cutting_choice l8))]⟩

def cutting_choices_L1_T (l36 : List Cutting_choice) : St :=
  ⟨[(5, vo 3 0 3 l36.length)], [(3, ro 0 164 3 l36.length (rf e_Cutting_choice l36))]⟩

set_option maxRecDepth 100000 in
theorem cutting_choices_L4_ok (E : Env 0) (a1 : Line) (v2 : (List Int)) (v4 : (List Int)) (l7 : List Cutting_choice) (l8 : List Cutting_choice) (x9 : Int) (v11 : Cutting_choice) : ∀ (n : Nat) (x20 : Int) (x21 : Cutting_choice) (res : Cutting_choice), cutting_choices_L4 a1 v2 v4 l8 x9 v11 n x20 x21 = some res → HL (kx E 132 0) (nd Tryd.f86 512628) (loopQ0 2 (fun o => cutting_choices_L4_T a1 v2 v4 l7 l8 x9 v11 o) res) n (cutting_choices_L4_S a1 v2 v4 l7 l8 x9 v11 x20 x21) := by
  intro n
  induction n with
  | zero =>
    intro x20 x21 res hm
    cases hm
  | succ n ih =>
    intro x20 x21 res hm
    refine HL_succ ?_
    refine R_sq Tryd.f86 1025256 1025257 (by kernel_rfl) ?_
    refine R_sq Tryd.f86 2050512 2050513 (by kernel_rfl) ?_
    refine R_rn Tryd.f86 2050512 13 [] [] 7 ⟨[(1, vp 0 0), (3, vo 1 0 1 v2.length), (4, vo 2 0 1 v4.length), (5, vo 3 0 3 l7.length), (6, vo 4 0 3 l8.length), (7, vi x9), (8, vp 5 0), (10, vi x20), (79, vb (decide (x20 ≤ a1.Len)))], [(0, bx 64 [ci a1.Len, ci a1.Kerf, ci a1.Pitch, tl e_i64 default a1.Sizes, tl (e_lst e_i64) default a1.Gain, tl e_i64 default a1.Chip, tl e_i64 default a1.Dust]), (1, ro 0 3 1 v2.length (rf e_i64 v2)), (2, ro 0 3 1 v4.length (rf e_i64 v4)), (3, ro 0 164 3 l7.length (rf e_Cutting_choice l7)), (4, ro 0 164 3 l8.length (rf e_Cutting_choice (l8.set x9.toNat v11))), (5, bx 164 [ci x21.piece.Size, ci x21.piece.At, ci x21.value])]⟩ o0 (by kernel_rfl) (by kernel_rfl) ?_
    refine R_cn Tryd.f86 (.tmp 79) 4101026 4101027 (by kernel_rfl) (decide (x20 ≤ a1.Len)) (by kernel_rfl) (fun b22 => ?_) (fun b22 => ?_)
    · replace hm := bif_t b22 hm
      refine R_skip (by kernel_rfl) ?_
      refine R_join (ι := Cutting_choice) (nd Tryd.f86 2050514) (nd Tryd.f86 2050515) (by kernel_rfl) (fun p => cutting_choices_k6_S a1 v2 v4 l7 l8 x9 v11 x20 p) (fun p => cutting_choices_k6 a1 x20 (cutting_choices_L4 a1 v2 v4 l8 x9 v11 n) p = some res) ?_ ?_
      · rintro x31 hm
        show H _ (cutting_choices_k6_S a1 v2 v4 l7 l8 x9 v11 x20 x31) (nd Tryd.f86 2050515) _
        refine R_rn Tryd.f86 2050515 14 [] [] 8 ⟨[(1, vp 0 0), (3, vo 1 0 1 v2.length), (4, vo 2 0 1 v4.length), (5, vo 3 0 3 l7.length), (6, vo 4 0 3 l8.length), (7, vi x9), (8, vp 5 0), (10, vi (w64 (x20 + a1.Pitch)))], [(0, bx 64 [ci a1.Len, ci a1.Kerf, ci a1.Pitch, tl e_i64 default a1.Sizes, tl (e_lst e_i64) default a1.Gain, tl e_i64 default a1.Chip, tl e_i64 default a1.Dust]), (1, ro 0 3 1 v2.length (rf e_i64 v2)), (2, ro 0 3 1 v4.length (rf e_i64 v4)), (3, ro 0 164 3 l7.length (rf e_Cutting_choice l7)), (4, ro 0 164 3 l8.length (rf e_Cutting_choice (l8.set x9.toNat v11))), (5, bx 164 [ci x31.piece.Size, ci x31.piece.At, ci x31.value])]⟩ o0 (by kernel_rfl) (by kernel_rfl) ?_
        exact HL_enter (cutting_choices_L4_S a1 v2 v4 l7 l8 x9 v11 (w64 (x20 + a1.Pitch)) x31) (by kernel_rfl) (by kernel_rfl) (ih (w64 (x20 + a1.Pitch)) x31 _ hm)
      · refine R_bk Tryd.f86 3 4101028 (by kernel_rfl) ?_
        refine R_sq Tryd.f86 8202056 8202057 (by kernel_rfl) ?_
        obtain ⟨g23, hm⟩ := bif_n hm
        refine R_rn Tryd.f86 8202056 15 [] [] 7 ⟨[(1, vp 0 0), (3, vo 1 0 1 v2.length), (4, vo 2 0 1 v4.length), (5, vo 3 0 3 l7.length), (6, vo 4 0 3 l8.length), (7, vi x9), (8, vp 5 0), (10, vi x20), (11, vp 7 0)], [(0, bx 64 [ci a1.Len, ci a1.Kerf, ci a1.Pitch, tl e_i64 default a1.Sizes, tl (e_lst e_i64) default a1.Gain, tl e_i64 default a1.Chip, tl e_i64 default a1.Dust]), (1, ro 0 3 1 v2.length (rf e_i64 v2)), (2, ro 0 3 1 v4.length (rf e_i64 v4)), (3, ro 0 164 3 l7.length (rf e_Cutting_choice l7)), (4, ro 0 164 3 l8.length (rf e_Cutting_choice (l8.set x9.toNat v11))), (5, bx 164 [ci x21.piece.Size, ci x21.piece.At, ci x21.value]), (7, bx 164 [ci ((((l8.set x9.toNat v11).getD x20.toNat default).piece).Size), ci ((((l8.set x9.toNat v11).getD x20.toNat default).piece).At), ci (((l8.set x9.toNat v11).getD x20.toNat default).value)])]⟩ (o1 (And.intro (inb_of g23) (toNat_lt (inb_of g23)))) (by kernel_rfl) (by kernel_rfl) ?_
        refine R_sq Tryd.f86 16404114 16404115 (by kernel_rfl) ?_
        refine R_rn Tryd.f86 16404114 16 [] [] 8 ⟨[(1, vp 0 0), (3, vo 1 0 1 v2.length), (4, vo 2 0 1 v4.length), (5, vo 3 0 3 l7.length), (6, vo 4 0 3 l8.length), (7, vi x9), (8, vp 5 0), (10, vi x20), (11, vp 7 0), (12, vi (w64 (x20 - a1.Kerf)))], [(0, bx 64 [ci a1.Len, ci a1.Kerf, ci a1.Pitch, tl e_i64 default a1.Sizes, tl (e_lst e_i64) default a1.Gain, tl e_i64 default a1.Chip, tl e_i64 default a1.Dust]), (1, ro 0 3 1 v2.length (rf e_i64 v2)), (2, ro 0 3 1 v4.length (rf e_i64 v4)), (3, ro 0 164 3 l7.length (rf e_Cutting_choice l7)), (4, ro 0 164 3 l8.length (rf e_Cutting_choice (l8.set x9.toNat v11))), (5, bx 164 [ci x21.piece.Size, ci x21.piece.At, ci x21.value]), (7, bx 164 [ci ((((l8.set x9.toNat v11).getD x20.toNat default).piece).Size), ci ((((l8.set x9.toNat v11).getD x20.toNat default).piece).At), ci (((l8.set x9.toNat v11).getD x20.toNat default).value)])]⟩ o0 (by kernel_rfl) (by kernel_rfl) ?_
        refine R_sq Tryd.f86 32808230 32808231 (by kernel_rfl) ?_
        obtain ⟨g24, hm⟩ := bif_n hm
        obtain ⟨g25, hm⟩ := bif_n hm
        obtain ⟨g26, hm⟩ := bif_n hm
        obtain ⟨g27, hm⟩ := bif_n hm
        refine R_dr Tryd.f86 32808230 17 [] [] [] [0, 1, 0, 0, 12, 28, 0, 0, 192, 448, 1020, 0, 0, 6144, 14336, 32764, 0, 0, 196608, 458752, 1048572, 2097151, 4194303, 8388607] 8 ⟨[(1, vp 0 0), (3, vo 1 0 1 v2.length), (4, vo 2 0 1 v4.length), (5, vo 3 0 3 l7.length), (6, vo 4 0 3 l8.length), (7, vi x9), (8, vp 5 0), (10, vi x20), (11, vp 7 0)], [(0, bx 64 [ci a1.Len, ci a1.Kerf, ci a1.Pitch, tl e_i64 default a1.Sizes, tl (e_lst e_i64) default a1.Gain, tl e_i64 default a1.Chip, tl e_i64 default a1.Dust]), (1, ro 0 3 1 v2.length (rf e_i64 v2)), (2, ro 0 3 1 v4.length (rf e_i64 v4)), (3, ro 0 164 3 l7.length (rf e_Cutting_choice l7)), (4, ro 0 164 3 l8.length (rf e_Cutting_choice (l8.set x9.toNat v11))), (5, bx 164 [ci x21.piece.Size, ci x21.piece.At, ci x21.value]), (7, bx 164 [ci ((((l8.set x9.toNat v11).getD x20.toNat default).piece).Size), ci ((((l8.set x9.toNat v11).getD x20.toNat default).piece).At), ci (w64 ((((l8.set x9.toNat v11).getD x20.toNat default).value) + (w64 ((w64 ((w64 ((v2.getD ((w64 (x20 - a1.Kerf)).toNat) default) - (v2.getD x9.toNat default))) + (v4.getD x20.toNat default))) - (v4.getD ((w64 (x20 - a1.Kerf)).toNat) default)))))])]⟩ (o1 (And.intro (inb_of g24) (And.intro (toNat_lt (inb_of g24)) (And.intro (inb_of g25) (And.intro (toNat_lt (inb_of g25)) (And.intro (inb_of g26) (And.intro (toNat_lt (inb_of g26)) (And.intro (inb_of g27) (toNat_lt (inb_of g27)))))))))) (by kernel_rfl) (by kernel_rfl) ?_
        refine R_join (ι := Bool) (nd Tryd.f86 65616462) (nd Tryd.f86 65616463) (by kernel_rfl) (fun p => cutting_choices_k5_S a1 v2 v4 l7 l8 x9 v11 x20 x21 p) (fun p => cutting_choices_k5 a1 v2 v4 l8 x9 v11 x20 x21 (cutting_choices_L4 a1 v2 v4 l8 x9 v11 n) p = some res) ?_ ?_
        · rintro x29 hm
          show H _ (cutting_choices_k5_S a1 v2 v4 l7 l8 x9 v11 x20 x21 x29) (nd Tryd.f86 65616463) _
          refine R_cn Tryd.f86 (.tmp 125) 131232926 131232927 (by kernel_rfl) x29 (by kernel_rfl) (fun b30 => ?_) (fun b30 => ?_)
          · replace hm := bif_t b30 hm
            refine R_rn Tryd.f86 131232926 19 [] [] 8 ⟨[(1, vp 0 0), (3, vo 1 0 1 v2.length), (4, vo 2 0 1 v4.length), (5, vo 3 0 3 l7.length), (6, vo 4 0 3 l8.length), (7, vi x9), (8, vp 5 0), (10, vi x20)], [(0, bx 64 [ci a1.Len, ci a1.Kerf, ci a1.Pitch, tl e_i64 default a1.Sizes, tl (e_lst e_i64) default a1.Gain, tl e_i64 default a1.Chip, tl e_i64 default a1.Dust]), (1, ro 0 3 1 v2.length (rf e_i64 v2)), (2, ro 0 3 1 v4.length (rf e_i64 v4)), (3, ro 0 164 3 l7.length (rf e_Cutting_choice l7)), (4, ro 0 164 3 l8.length (rf e_Cutting_choice (l8.set x9.toNat v11))), (5, bx 164 [ci ((((l8.set x9.toNat v11).getD x20.toNat default).piece).Size), ci ((((l8.set x9.toNat v11).getD x20.toNat default).piece).At), ci (w64 ((((l8.set x9.toNat v11).getD x20.toNat default).value) + (w64 ((w64 ((w64 ((v2.getD ((w64 (x20 - a1.Kerf)).toNat) default) - (v2.getD x9.toNat default))) + (v4.getD x20.toNat default))) - (v4.getD ((w64 (x20 - a1.Kerf)).toNat) default)))))])]⟩ o0 (by kernel_rfl) (by kernel_rfl) ?_
            exact J_mk ((Cutting_choice.mk (((l8.set x9.toNat v11).getD x20.toNat default).piece) (w64 ((((l8.set x9.toNat v11).getD x20.toNat default).value) + (w64 ((w64 ((w64 ((v2.getD ((w64 (x20 - a1.Kerf)).toNat) default) - (v2.getD x9.toNat default))) + (v4.getD x20.toNat default))) - (v4.getD ((w64 (x20 - a1.Kerf)).toNat) default))))))) hm (by kernel_rfl) (by kernel_rfl)
          · replace hm := bif_f b30 hm
            refine R_skip (by kernel_rfl) ?_
            exact J_mk (x21) hm (by kernel_rfl) (by kernel_rfl)
        · rcases Bool.eq_false_or_eq_true (!((((((l8.set x9.toNat v11).getD x20.toNat default).piece).Size) == (-1)) && ((((((l8.set x9.toNat v11).getD x20.toNat default).piece).At) == (-1)) && true))) with b28 | b28
          · replace hm := bif_t b28 hm
            refine R_rn Tryd.f86 65616462 18 [(4, dfx true)] [] 8 ⟨[(1, vp 0 0), (3, vo 1 0 1 v2.length), (4, vo 2 0 1 v4.length), (5, vo 3 0 3 l7.length), (6, vo 4 0 3 l8.length), (7, vi x9), (8, vp 5 0), (10, vi x20), (11, vp 7 0), (120, vp 7 2), (121, vi (w64 ((((l8.set x9.toNat v11).getD x20.toNat default).value) + (w64 ((w64 ((w64 ((v2.getD ((w64 (x20 - a1.Kerf)).toNat) default) - (v2.getD x9.toNat default))) + (v4.getD x20.toNat default))) - (v4.getD ((w64 (x20 - a1.Kerf)).toNat) default)))))), (122, vp 5 2), (123, vi x21.value), (124, vb (decide ((w64 ((((l8.set x9.toNat v11).getD x20.toNat default).value) + (w64 ((w64 ((w64 ((v2.getD ((w64 (x20 - a1.Kerf)).toNat) default) - (v2.getD x9.toNat default))) + (v4.getD x20.toNat default))) - (v4.getD ((w64 (x20 - a1.Kerf)).toNat) default))))) > x21.value))), (125, vb (decide ((w64 ((((l8.set x9.toNat v11).getD x20.toNat default).value) + (w64 ((w64 ((w64 ((v2.getD ((w64 (x20 - a1.Kerf)).toNat) default) - (v2.getD x9.toNat default))) + (v4.getD x20.toNat default))) - (v4.getD ((w64 (x20 - a1.Kerf)).toNat) default))))) > x21.value)))], [(0, bx 64 [ci a1.Len, ci a1.Kerf, ci a1.Pitch, tl e_i64 default a1.Sizes, tl (e_lst e_i64) default a1.Gain, tl e_i64 default a1.Chip, tl e_i64 default a1.Dust]), (1, ro 0 3 1 v2.length (rf e_i64 v2)), (2, ro 0 3 1 v4.length (rf e_i64 v4)), (3, ro 0 164 3 l7.length (rf e_Cutting_choice l7)), (4, ro 0 164 3 l8.length (rf e_Cutting_choice (l8.set x9.toNat v11))), (5, bx 164 [ci x21.piece.Size, ci x21.piece.At, ci x21.value]), (7, bx 164 [ci ((((l8.set x9.toNat v11).getD x20.toNat default).piece).Size), ci ((((l8.set x9.toNat v11).getD x20.toNat default).piece).At), ci (w64 ((((l8.set x9.toNat v11).getD x20.toNat default).value) + (w64 ((w64 ((w64 ((v2.getD ((w64 (x20 - a1.Kerf)).toNat) default) - (v2.getD x9.toNat default))) + (v4.getD x20.toNat default))) - (v4.getD ((w64 (x20 - a1.Kerf)).toNat) default)))))])]⟩ (o1 b28) (by kernel_rfl) (by kernel_rfl) ?_
            exact J_mk (decide ((w64 ((((l8.set x9.toNat v11).getD x20.toNat default).value) + (w64 ((w64 ((w64 ((v2.getD ((w64 (x20 - a1.Kerf)).toNat) default) - (v2.getD x9.toNat default))) + (v4.getD x20.toNat default))) - (v4.getD ((w64 (x20 - a1.Kerf)).toNat) default))))) > x21.value)) hm (by kernel_rfl) (by kernel_rfl)
          · replace hm := bif_f b28 hm
            refine R_rn Tryd.f86 65616462 18 [(4, dfx false)] [] 8 ⟨[(1, vp 0 0), (3, vo 1 0 1 v2.length), (4, vo 2 0 1 v4.length), (5, vo 3 0 3 l7.length), (6, vo 4 0 3 l8.length), (7, vi x9), (8, vp 5 0), (10, vi x20), (11, vp 7 0), (125, vb false)], [(0, bx 64 [ci a1.Len, ci a1.Kerf, ci a1.Pitch, tl e_i64 default a1.Sizes, tl (e_lst e_i64) default a1.Gain, tl e_i64 default a1.Chip, tl e_i64 default a1.Dust]), (1, ro 0 3 1 v2.length (rf e_i64 v2)), (2, ro 0 3 1 v4.length (rf e_i64 v4)), (3, ro 0 164 3 l7.length (rf e_Cutting_choice l7)), (4, ro 0 164 3 l8.length (rf e_Cutting_choice (l8.set x9.toNat v11))), (5, bx 164 [ci x21.piece.Size, ci x21.piece.At, ci x21.value]), (7, bx 164 [ci ((((l8.set x9.toNat v11).getD x20.toNat default).piece).Size), ci ((((l8.set x9.toNat v11).getD x20.toNat default).piece).At), ci (w64 ((((l8.set x9.toNat v11).getD x20.toNat default).value) + (w64 ((w64 ((w64 ((v2.getD ((w64 (x20 - a1.Kerf)).toNat) default) - (v2.getD x9.toNat default))) + (v4.getD x20.toNat default))) - (v4.getD ((w64 (x20 - a1.Kerf)).toNat) default)))))])]⟩ (o1 b28) (by kernel_rfl) (by kernel_rfl) ?_
            exact J_mk (false) hm (by kernel_rfl) (by kernel_rfl)
    · replace hm := bif_f b22 hm
      refine R_exit 2 (by kernel_rfl) ?_
      obtain rfl := Option.some.inj hm
      exact L0_mk (by kernel_rfl) (by kernel_rfl)

set_option maxRecDepth 100000 in
theorem cutting_choices_L1_ok (E : Env 0) (a1 : Line) (v2 : (List Int)) (v4 : (List Int)) : ∀ (n : Nat) (l7 : List Cutting_choice) (l7n : Nat) (l8 : List Cutting_choice) (l8n : Nat) (x9 : Int) (res : (List Cutting_choice)), l7.length = l7n → l8.length = l8n → cutting_choices_L1 a1 v2 v4 n l7 l8 x9 = some res → HL (kx E 132 0) (nd Tryd.f86 500) (loopQ0 0 (fun o => cutting_choices_L1_T o) res) n (cutting_choices_L1_S a1 v2 v4 l7 l7n l8 l8n x9) := by
  intro n
  induction n with
  | zero =>
    intro l7 l7n l8 l8n x9 res hl0 hl1 hm
    cases hm
  | succ n ih =>
    intro l7 l7n l8 l8n x9 res hl0 hl1 hm
    subst hl0
    subst hl1
    refine HL_succ ?_
    refine R_sq Tryd.f86 1000 1001 (by kernel_rfl) ?_
    refine R_sq Tryd.f86 2000 2001 (by kernel_rfl) ?_
    refine R_rn Tryd.f86 2000 5 [] [] 5 ⟨[(1, vp 0 0), (3, vo 1 0 1 v2.length), (4, vo 2 0 1 v4.length), (5, vo 3 0 3 l7.length), (6, vo 4 0 3 l8.length), (7, vi x9), (30, vb (decide (x9 ≥ 0)))], [(0, bx 64 [ci a1.Len, ci a1.Kerf, ci a1.Pitch, tl e_i64 default a1.Sizes, tl (e_lst e_i64) default a1.Gain, tl e_i64 default a1.Chip, tl e_i64 default a1.Dust]), (1, ro 0 3 1 v2.length (rf e_i64 v2)), (2, ro 0 3 1 v4.length (rf e_i64 v4)), (3, ro 0 164 3 l7.length (rf e_Cutting_choice l7)), (4, ro 0 164 3 l8.length (rf e_Cutting_choice l8))]⟩ o0 (by kernel_rfl) (by kernel_rfl) ?_
    refine R_cn Tryd.f86 (.tmp 30) 4002 4003 (by kernel_rfl) (decide (x9 ≥ 0)) (by kernel_rfl) (fun b10 => ?_) (fun b10 => ?_)
    · replace hm := bif_t b10 hm
      refine R_skip (by kernel_rfl) ?_
      refine R_sq Tryd.f86 2002 2003 (by kernel_rfl) ?_
      refine R_bk Tryd.f86 1 4004 (by kernel_rfl) ?_
      refine R_sq Tryd.f86 8008 8009 (by kernel_rfl) ?_
      obtain ⟨v11, h12, hm⟩ := bind_s hm
      obtain ⟨g13, hm⟩ := bif_n hm
      refine R_rn Tryd.f86 8008 7 [(6, dex (cen [] [] 5 0 (cutting_start_x v11) (cutting_start_o v11) [35, 36, 37, 38] [2, 3])), (8, drw 0 0 (rf e_Cutting_choice (l8.set x9.toNat v11)))] [] 5 ⟨[(1, vp 0 0), (3, vo 1 0 1 v2.length), (4, vo 2 0 1 v4.length), (5, vo 3 0 3 l7.length), (6, vo 4 0 3 l8.length), (7, vi x9)], [(0, bx 64 [ci a1.Len, ci a1.Kerf, ci a1.Pitch, tl e_i64 default a1.Sizes, tl (e_lst e_i64) default a1.Gain, tl e_i64 default a1.Chip, tl e_i64 default a1.Dust]), (1, ro 0 3 1 v2.length (rf e_i64 v2)), (2, ro 0 3 1 v4.length (rf e_i64 v4)), (3, ro 0 164 3 l7.length (rf e_Cutting_choice l7)), (4, ro 0 164 3 l8.length (rf e_Cutting_choice (l8.set x9.toNat v11)))]⟩ (o1 (And.intro (callS (K := (kx E 132 0)) (b := false) ⟨[(35, va [ci a1.Len, ci a1.Kerf, ci a1.Pitch, tl e_i64 default a1.Sizes, tl (e_lst e_i64) default a1.Gain, tl e_i64 default a1.Chip, tl e_i64 default a1.Dust]), (36, vi x9), (37, vo 2 0 1 v4.length), (38, vo 3 0 3 l7.length)], [(2, ro 0 3 1 v4.length (rf e_i64 v4)), (3, ro 0 164 3 l7.length (rf e_Cutting_choice l7))]⟩ (opAt (rg Tryd.f86 8008) 6) [] [] 5 (o1 (And.intro (Nat.le_refl v4.length) (Nat.le_refl l7.length))) rfl (cutting_start_ok a1 x9 v4 l7 v11 h12) (.inr ⟨(by kernel_rfl), cutting_start_f v11⟩) (by kernel_rfl)) (And.intro (inb_of g13) (stP e_Cutting_choice default v11 l8 l8.length x9.toNat 0 [ci v11.piece.Size, ci v11.piece.At, ci v11.value] rfl (toNat_lt (inb_of g13)) rfl)))) (by kernel_rfl) (by kernel_rfl) ?_
      refine R_sq Tryd.f86 16018 16019 (by kernel_rfl) ?_
      obtain ⟨g14, hm⟩ := bif_n hm
      obtain ⟨g15, hm⟩ := bif_n hm
      refine R_dr Tryd.f86 16018 8 [] [] [] [0, 0, 0, 4, 14, 30, 0, 0, 192, 448, 1022, 2047, 0, 8191] 5 ⟨[(1, vp 0 0), (3, vo 1 0 1 v2.length), (4, vo 2 0 1 v4.length), (5, vo 3 0 3 l7.length), (6, vo 4 0 3 l8.length), (7, vi x9), (8, vp 5 0)], [(0, bx 64 [ci a1.Len, ci a1.Kerf, ci a1.Pitch, tl e_i64 default a1.Sizes, tl (e_lst e_i64) default a1.Gain, tl e_i64 default a1.Chip, tl e_i64 default a1.Dust]), (1, ro 0 3 1 v2.length (rf e_i64 v2)), (2, ro 0 3 1 v4.length (rf e_i64 v4)), (3, ro 0 164 3 l7.length (rf e_Cutting_choice l7)), (4, ro 0 164 3 l8.length (rf e_Cutting_choice (l8.set x9.toNat v11))), (5, bx 164 [ci (-1), ci (-1), ci (w64 ((v2.getD a1.Len.toNat default) - (v2.getD x9.toNat default)))])]⟩ (o1 (And.intro (inb_of g14) (And.intro (toNat_lt (inb_of g14)) (And.intro (inb_of g15) (toNat_lt (inb_of g15)))))) (by kernel_rfl) (by kernel_rfl) ?_
      refine R_join (ι := Cutting_choice) (nd Tryd.f86 32038) (nd Tryd.f86 32039) (by kernel_rfl) (fun p => cutting_choices_k3_S a1 v2 v4 l7 l8 x9 v11 p) (fun p => cutting_choices_k3 a1 v2 v4 l7 l8 x9 (cutting_choices_L1 a1 v2 v4 n) v11 p = some res) ?_ ?_
      · rintro x19 hm
        show H _ (cutting_choices_k3_S a1 v2 v4 l7 l8 x9 v11 x19) (nd Tryd.f86 32039) _
        refine R_sq Tryd.f86 64078 64079 (by kernel_rfl) ?_
        refine R_sq Tryd.f86 128156 128157 (by kernel_rfl) ?_
        refine R_rn Tryd.f86 128156 12 [] [] 7 ⟨[(1, vp 0 0), (3, vo 1 0 1 v2.length), (4, vo 2 0 1 v4.length), (5, vo 3 0 3 l7.length), (6, vo 4 0 3 l8.length), (7, vi x9), (8, vp 5 0), (10, vi (w64 ((w64 (x9 + a1.Pitch)) + a1.Kerf)))], [(0, bx 64 [ci a1.Len, ci a1.Kerf, ci a1.Pitch, tl e_i64 default a1.Sizes, tl (e_lst e_i64) default a1.Gain, tl e_i64 default a1.Chip, tl e_i64 default a1.Dust]), (1, ro 0 3 1 v2.length (rf e_i64 v2)), (2, ro 0 3 1 v4.length (rf e_i64 v4)), (3, ro 0 164 3 l7.length (rf e_Cutting_choice l7)), (4, ro 0 164 3 l8.length (rf e_Cutting_choice (l8.set x9.toNat v11))), (5, bx 164 [ci x19.piece.Size, ci x19.piece.At, ci x19.value])]⟩ o0 (by kernel_rfl) (by kernel_rfl) ?_
        obtain ⟨o33, h34, hm⟩ := bind_s hm
        refine R_loop0 (nd Tryd.f86 512628) 2 (by kernel_rfl) FUEL (fun o => cutting_choices_L4_T a1 v2 v4 l7 l8 x9 v11 o) o33 (HL_enter (cutting_choices_L4_S a1 v2 v4 l7 l8 x9 v11 (w64 ((w64 (x9 + a1.Pitch)) + a1.Kerf)) x19) (by kernel_rfl) (by kernel_rfl) (cutting_choices_L4_ok E a1 v2 v4 l7 l8 x9 v11 FUEL (w64 ((w64 (x9 + a1.Pitch)) + a1.Kerf)) x19 o33 h34)) ?_
        obtain ⟨g35, hm⟩ := bif_n hm
        refine R_rn Tryd.f86 64079 20 [(4, drw 0 0 (rf e_Cutting_choice (l7.set x9.toNat o33)))] [] 7 ⟨[(1, vp 0 0), (3, vo 1 0 1 v2.length), (4, vo 2 0 1 v4.length), (5, vo 3 0 3 l7.length), (6, vo 4 0 3 l8.length), (7, vi x9)], [(0, bx 64 [ci a1.Len, ci a1.Kerf, ci a1.Pitch, tl e_i64 default a1.Sizes, tl (e_lst e_i64) default a1.Gain, tl e_i64 default a1.Chip, tl e_i64 default a1.Dust]), (1, ro 0 3 1 v2.length (rf e_i64 v2)), (2, ro 0 3 1 v4.length (rf e_i64 v4)), (3, ro 0 164 3 l7.length (rf e_Cutting_choice (l7.set x9.toNat o33))), (4, ro 0 164 3 l8.length (rf e_Cutting_choice (l8.set x9.toNat v11)))]⟩ (o1 (And.intro (inb_of g35) (stP e_Cutting_choice default o33 l7 l7.length x9.toNat 0 [ci o33.piece.Size, ci o33.piece.At, ci o33.value] rfl (toNat_lt (inb_of g35)) rfl))) (by kernel_rfl) (by kernel_rfl) ?_
        refine R_rn Tryd.f86 2003 6 [] [] 7 ⟨[(1, vp 0 0), (3, vo 1 0 1 v2.length), (4, vo 2 0 1 v4.length), (5, vo 3 0 3 l7.length), (6, vo 4 0 3 l8.length), (7, vi (w64 (x9 - 1)))], [(0, bx 64 [ci a1.Len, ci a1.Kerf, ci a1.Pitch, tl e_i64 default a1.Sizes, tl (e_lst e_i64) default a1.Gain, tl e_i64 default a1.Chip, tl e_i64 default a1.Dust]), (1, ro 0 3 1 v2.length (rf e_i64 v2)), (2, ro 0 3 1 v4.length (rf e_i64 v4)), (3, ro 0 164 3 l7.length (rf e_Cutting_choice (l7.set x9.toNat o33))), (4, ro 0 164 3 l8.length (rf e_Cutting_choice (l8.set x9.toNat v11)))]⟩ o0 (by kernel_rfl) (by kernel_rfl) ?_
        exact HL_enter (cutting_choices_L1_S a1 v2 v4 (l7.set x9.toNat o33) l7.length (l8.set x9.toNat v11) l8.length (w64 (x9 - 1))) (by kernel_rfl) (by kernel_rfl) (ih (l7.set x9.toNat o33) l7.length (l8.set x9.toNat v11) l8.length (w64 (x9 - 1)) _ (len_set rfl) (len_set rfl) hm)
      · refine R_sq Tryd.f86 64076 64077 (by kernel_rfl) ?_
        refine R_rn Tryd.f86 64076 9 [] [] 6 ⟨[(1, vp 0 0), (3, vo 1 0 1 v2.length), (4, vo 2 0 1 v4.length), (5, vo 3 0 3 l7.length), (6, vo 4 0 3 l8.length), (7, vi x9), (8, vp 5 0), (9, vp 6 0)], [(0, bx 64 [ci a1.Len, ci a1.Kerf, ci a1.Pitch, tl e_i64 default a1.Sizes, tl (e_lst e_i64) default a1.Gain, tl e_i64 default a1.Chip, tl e_i64 default a1.Dust]), (1, ro 0 3 1 v2.length (rf e_i64 v2)), (2, ro 0 3 1 v4.length (rf e_i64 v4)), (3, ro 0 164 3 l7.length (rf e_Cutting_choice l7)), (4, ro 0 164 3 l8.length (rf e_Cutting_choice (l8.set x9.toNat v11))), (5, bx 164 [ci (-1), ci (-1), ci (w64 ((v2.getD a1.Len.toNat default) - (v2.getD x9.toNat default)))]), (6, bx 164 [ci ((((l8.set x9.toNat v11).getD x9.toNat default).piece).Size), ci ((((l8.set x9.toNat v11).getD x9.toNat default).piece).At), ci (((l8.set x9.toNat v11).getD x9.toNat default).value)])]⟩ (o1 (And.intro (inb_of g13) (toNat_lt (inb_of g13)))) (by kernel_rfl) (by kernel_rfl) ?_
        refine R_join (ι := Bool) (nd Tryd.f86 128154) (nd Tryd.f86 128155) (by kernel_rfl) (fun p => cutting_choices_k2_S a1 v2 v4 l7 l8 x9 v11 p) (fun p => cutting_choices_k2 a1 v2 v4 l7 l8 x9 (cutting_choices_L1 a1 v2 v4 n) v11 p = some res) ?_ ?_
        · rintro x17 hm
          show H _ (cutting_choices_k2_S a1 v2 v4 l7 l8 x9 v11 x17) (nd Tryd.f86 128155) _
          refine R_cn Tryd.f86 (.tmp 67) 256310 256311 (by kernel_rfl) x17 (by kernel_rfl) (fun b18 => ?_) (fun b18 => ?_)
          · replace hm := bif_t b18 hm
            refine R_rn Tryd.f86 256310 11 [] [] 7 ⟨[(1, vp 0 0), (3, vo 1 0 1 v2.length), (4, vo 2 0 1 v4.length), (5, vo 3 0 3 l7.length), (6, vo 4 0 3 l8.length), (7, vi x9), (8, vp 5 0)], [(0, bx 64 [ci a1.Len, ci a1.Kerf, ci a1.Pitch, tl e_i64 default a1.Sizes, tl (e_lst e_i64) default a1.Gain, tl e_i64 default a1.Chip, tl e_i64 default a1.Dust]), (1, ro 0 3 1 v2.length (rf e_i64 v2)), (2, ro 0 3 1 v4.length (rf e_i64 v4)), (3, ro 0 164 3 l7.length (rf e_Cutting_choice l7)), (4, ro 0 164 3 l8.length (rf e_Cutting_choice (l8.set x9.toNat v11))), (5, bx 164 [ci ((((l8.set x9.toNat v11).getD x9.toNat default).piece).Size), ci ((((l8.set x9.toNat v11).getD x9.toNat default).piece).At), ci (((l8.set x9.toNat v11).getD x9.toNat default).value)])]⟩ o0 (by kernel_rfl) (by kernel_rfl) ?_
            exact J_mk (((l8.set x9.toNat v11).getD x9.toNat default)) hm (by kernel_rfl) (by kernel_rfl)
          · replace hm := bif_f b18 hm
            refine R_skip (by kernel_rfl) ?_
            exact J_mk ((Cutting_choice.mk (Piece.mk (-1) (-1)) (w64 ((v2.getD a1.Len.toNat default) - (v2.getD x9.toNat default))))) hm (by kernel_rfl) (by kernel_rfl)
        · rcases Bool.eq_false_or_eq_true (!((((((l8.set x9.toNat v11).getD x9.toNat default).piece).Size) == (-1)) && ((((((l8.set x9.toNat v11).getD x9.toNat default).piece).At) == (-1)) && true))) with b16 | b16
          · replace hm := bif_t b16 hm
            refine R_rn Tryd.f86 128154 10 [(4, dfx true)] [] 7 ⟨[(1, vp 0 0), (3, vo 1 0 1 v2.length), (4, vo 2 0 1 v4.length), (5, vo 3 0 3 l7.length), (6, vo 4 0 3 l8.length), (7, vi x9), (8, vp 5 0), (9, vp 6 0), (62, vp 6 2), (63, vi (((l8.set x9.toNat v11).getD x9.toNat default).value)), (64, vp 5 2), (65, vi (w64 ((v2.getD a1.Len.toNat default) - (v2.getD x9.toNat default)))), (66, vb (decide ((((l8.set x9.toNat v11).getD x9.toNat default).value) > (w64 ((v2.getD a1.Len.toNat default) - (v2.getD x9.toNat default)))))), (67, vb (decide ((((l8.set x9.toNat v11).getD x9.toNat default).value) > (w64 ((v2.getD a1.Len.toNat default) - (v2.getD x9.toNat default))))))], [(0, bx 64 [ci a1.Len, ci a1.Kerf, ci a1.Pitch, tl e_i64 default a1.Sizes, tl (e_lst e_i64) default a1.Gain, tl e_i64 default a1.Chip, tl e_i64 default a1.Dust]), (1, ro 0 3 1 v2.length (rf e_i64 v2)), (2, ro 0 3 1 v4.length (rf e_i64 v4)), (3, ro 0 164 3 l7.length (rf e_Cutting_choice l7)), (4, ro 0 164 3 l8.length (rf e_Cutting_choice (l8.set x9.toNat v11))), (5, bx 164 [ci (-1), ci (-1), ci (w64 ((v2.getD a1.Len.toNat default) - (v2.getD x9.toNat default)))]), (6, bx 164 [ci ((((l8.set x9.toNat v11).getD x9.toNat default).piece).Size), ci ((((l8.set x9.toNat v11).getD x9.toNat default).piece).At), ci (((l8.set x9.toNat v11).getD x9.toNat default).value)])]⟩ (o1 b16) (by kernel_rfl) (by kernel_rfl) ?_
            exact J_mk (decide ((((l8.set x9.toNat v11).getD x9.toNat default).value) > (w64 ((v2.getD a1.Len.toNat default) - (v2.getD x9.toNat default))))) hm (by kernel_rfl) (by kernel_rfl)
          · replace hm := bif_f b16 hm
            refine R_rn Tryd.f86 128154 10 [(4, dfx false)] [] 7 ⟨[(1, vp 0 0), (3, vo 1 0 1 v2.length), (4, vo 2 0 1 v4.length), (5, vo 3 0 3 l7.length), (6, vo 4 0 3 l8.length), (7, vi x9), (8, vp 5 0), (9, vp 6 0), (67, vb false)], [(0, bx 64 [ci a1.Len, ci a1.Kerf, ci a1.Pitch, tl e_i64 default a1.Sizes, tl (e_lst e_i64) default a1.Gain, tl e_i64 default a1.Chip, tl e_i64 default a1.Dust]), (1, ro 0 3 1 v2.length (rf e_i64 v2)), (2, ro 0 3 1 v4.length (rf e_i64 v4)), (3, ro 0 164 3 l7.length (rf e_Cutting_choice l7)), (4, ro 0 164 3 l8.length (rf e_Cutting_choice (l8.set x9.toNat v11))), (5, bx 164 [ci (-1), ci (-1), ci (w64 ((v2.getD a1.Len.toNat default) - (v2.getD x9.toNat default)))]), (6, bx 164 [ci ((((l8.set x9.toNat v11).getD x9.toNat default).piece).Size), ci ((((l8.set x9.toNat v11).getD x9.toNat default).piece).At), ci (((l8.set x9.toNat v11).getD x9.toNat default).value)])]⟩ (o1 b16) (by kernel_rfl) (by kernel_rfl) ?_
            exact J_mk (false) hm (by kernel_rfl) (by kernel_rfl)
    · replace hm := bif_f b10 hm
      refine R_exit 0 (by kernel_rfl) ?_
      obtain rfl := Option.some.inj hm
      exact L0_mk (by kernel_rfl) (by kernel_rfl)

set_option maxRecDepth 100000 in
theorem cutting_choices_ok (a1 : Line) (r : (List Cutting_choice)) (hm : cutting_choices a1 = some r) : CtX Tryd.prog globs 86 0 0 [.agg [ci a1.Len, ci a1.Kerf, ci a1.Pitch, tl e_i64 default a1.Sizes, tl (e_lst e_i64) default a1.Gain, tl e_i64 default a1.Chip, tl e_i64 default a1.Dust]] [] (cutting_choices_x r) (cutting_choices_o r) := by
  unfold cutting_choices at hm
  refine CtX_of_E (fn := Tryd.f86) (c := nd Tryd.f86 1) (nt := 132) (by kernel_rfl) (by kernel_rfl) (by kernel_rfl) (by kernel_rfl) fun E => ?_
  refine R_sq Tryd.f86 2 3 (by kernel_rfl) ?_
  refine R_rn Tryd.f86 2 0 [] [] 0 ⟨[(1, vp 0 0)], [(0, bx 64 [ci a1.Len, ci a1.Kerf, ci a1.Pitch, tl e_i64 default a1.Sizes, tl (e_lst e_i64) default a1.Gain, tl e_i64 default a1.Chip, tl e_i64 default a1.Dust])]⟩ o0 (by kernel_rfl) (by kernel_rfl) ?_
  refine R_sq Tryd.f86 6 7 (by kernel_rfl) ?_
  obtain ⟨v2, h3, hm⟩ := bind_s hm
  obtain ⟨v4, h5, hm⟩ := bind_s hm
  refine R_dr Tryd.f86 6 1 [] [(2, dex (cen [] [] 1 0 (cutting_sums_x v2) (cutting_sums_o v2) [14] [])), (5, dex (cen [] [] 2 0 (cutting_sums_x v4) (cutting_sums_o v4) [17] []))] [] [0, 1, 3, 0, 8, 31, 63, 127] 1 ⟨[(1, vp 0 0), (3, vo 1 0 1 v2.length), (4, vo 2 0 1 v4.length)], [(0, bx 64 [ci a1.Len, ci a1.Kerf, ci a1.Pitch, tl e_i64 default a1.Sizes, tl (e_lst e_i64) default a1.Gain, tl e_i64 default a1.Chip, tl e_i64 default a1.Dust]), (1, ro 0 3 1 v2.length (rf e_i64 v2)), (2, ro 0 3 1 v4.length (rf e_i64 v4))]⟩ (o1 (And.intro (callS (K := (kx E 132 0)) ⟨[(14, vc (tl e_i64 default a1.Chip))], []⟩ (opAt (rg Tryd.f86 6) 2) [] [] 1 o0 rfl (cutting_sums_ok a1.Chip v2 h3) (.inl rfl) (by kernel_rfl)) (callS (K := (kx E 132 0)) ⟨[(17, vc (tl e_i64 default a1.Dust))], []⟩ (opAt (rg Tryd.f86 6) 5) [] [] 2 o0 rfl (cutting_sums_ok a1.Dust v4 h5) (.inl rfl) (by kernel_rfl)))) (by kernel_rfl) (by kernel_rfl) ?_
  refine R_sq Tryd.f86 14 15 (by kernel_rfl) ?_
  obtain ⟨g6, hm⟩ := bif_n hm
  refine R_rn Tryd.f86 14 2 [(3, drw 3 0 (rf e_Cutting_choice (List.replicate ((w64 (a1.Len + 1)).toNat) (Cutting_choice.mk (Piece.mk 0 0) 0))))] [] 3 ⟨[(1, vp 0 0), (3, vo 1 0 1 v2.length), (4, vo 2 0 1 v4.length), (5, vo 3 0 3 ((w64 (a1.Len + 1)).toNat))], [(0, bx 64 [ci a1.Len, ci a1.Kerf, ci a1.Pitch, tl e_i64 default a1.Sizes, tl (e_lst e_i64) default a1.Gain, tl e_i64 default a1.Chip, tl e_i64 default a1.Dust]), (1, ro 0 3 1 v2.length (rf e_i64 v2)), (2, ro 0 3 1 v4.length (rf e_i64 v4)), (3, ro 0 164 3 ((w64 (a1.Len + 1)).toNat) (rf e_Cutting_choice (List.replicate ((w64 (a1.Len + 1)).toNat) (Cutting_choice.mk (Piece.mk 0 0) 0))))]⟩ (o1 (mkP e_Cutting_choice default (Cutting_choice.mk (Piece.mk 0 0) 0) (w64 (a1.Len + 1)) 24 [ci 0, ci 0, ci 0] (mkOk_of g6) rfl)) (by kernel_rfl) (by kernel_rfl) ?_
  refine R_sq Tryd.f86 30 31 (by kernel_rfl) ?_
  refine R_rn Tryd.f86 30 3 [(3, drw 4 0 (rf e_Cutting_choice (List.replicate ((w64 (a1.Len + 1)).toNat) (Cutting_choice.mk (Piece.mk 0 0) 0))))] [] 4 ⟨[(1, vp 0 0), (3, vo 1 0 1 v2.length), (4, vo 2 0 1 v4.length), (5, vo 3 0 3 ((w64 (a1.Len + 1)).toNat)), (6, vo 4 0 3 ((w64 (a1.Len + 1)).toNat))], [(0, bx 64 [ci a1.Len, ci a1.Kerf, ci a1.Pitch, tl e_i64 default a1.Sizes, tl (e_lst e_i64) default a1.Gain, tl e_i64 default a1.Chip, tl e_i64 default a1.Dust]), (1, ro 0 3 1 v2.length (rf e_i64 v2)), (2, ro 0 3 1 v4.length (rf e_i64 v4)), (3, ro 0 164 3 ((w64 (a1.Len + 1)).toNat) (rf e_Cutting_choice (List.replicate ((w64 (a1.Len + 1)).toNat) (Cutting_choice.mk (Piece.mk 0 0) 0)))), (4, ro 0 164 3 ((w64 (a1.Len + 1)).toNat) (rf e_Cutting_choice (List.replicate ((w64 (a1.Len + 1)).toNat) (Cutting_choice.mk (Piece.mk 0 0) 0))))]⟩ (o1 (mkP e_Cutting_choice default (Cutting_choice.mk (Piece.mk 0 0) 0) (w64 (a1.Len + 1)) 24 [ci 0, ci 0, ci 0] (mkOk_of g6) rfl)) (by kernel_rfl) (by kernel_rfl) ?_
  refine R_sq Tryd.f86 62 63 (by kernel_rfl) ?_
  refine R_sq Tryd.f86 124 125 (by kernel_rfl) ?_
  refine R_rn Tryd.f86 124 4 [] [] 5 ⟨[(1, vp 0 0), (3, vo 1 0 1 v2.length), (4, vo 2 0 1 v4.length), (5, vo 3 0 3 ((w64 (a1.Len + 1)).toNat)), (6, vo 4 0 3 ((w64 (a1.Len + 1)).toNat)), (7, vi a1.Len)], [(0, bx 64 [ci a1.Len, ci a1.Kerf, ci a1.Pitch, tl e_i64 default a1.Sizes, tl (e_lst e_i64) default a1.Gain, tl e_i64 default a1.Chip, tl e_i64 default a1.Dust]), (1, ro 0 3 1 v2.length (rf e_i64 v2)), (2, ro 0 3 1 v4.length (rf e_i64 v4)), (3, ro 0 164 3 ((w64 (a1.Len + 1)).toNat) (rf e_Cutting_choice (List.replicate ((w64 (a1.Len + 1)).toNat) (Cutting_choice.mk (Piece.mk 0 0) 0)))), (4, ro 0 164 3 ((w64 (a1.Len + 1)).toNat) (rf e_Cutting_choice (List.replicate ((w64 (a1.Len + 1)).toNat) (Cutting_choice.mk (Piece.mk 0 0) 0))))]⟩ o0 (by kernel_rfl) (by kernel_rfl) ?_
  obtain ⟨o37, h38, hm⟩ := bind_s hm
  refine R_loop0 (nd Tryd.f86 500) 0 (by kernel_rfl) FUEL (fun o => cutting_choices_L1_T o) o37 (HL_enter (cutting_choices_L1_S a1 v2 v4 (List.replicate ((w64 (a1.Len + 1)).toNat) (Cutting_choice.mk (Piece.mk 0 0) 0)) ((w64 (a1.Len + 1)).toNat) (List.replicate ((w64 (a1.Len + 1)).toNat) (Cutting_choice.mk (Piece.mk 0 0) 0)) ((w64 (a1.Len + 1)).toNat) a1.Len) (by kernel_rfl) (by kernel_rfl) (cutting_choices_L1_ok E a1 v2 v4 FUEL (List.replicate ((w64 (a1.Len + 1)).toNat) (Cutting_choice.mk (Piece.mk 0 0) 0)) ((w64 (a1.Len + 1)).toNat) (List.replicate ((w64 (a1.Len + 1)).toNat) (Cutting_choice.mk (Piece.mk 0 0) 0)) ((w64 (a1.Len + 1)).toNat) a1.Len o37 len_rep len_rep h38)) ?_
  refine R_sq Tryd.f86 126 127 (by kernel_rfl) ?_
  refine R_rn Tryd.f86 126 21 [] [] 5 ⟨[(2, vo 3 0 3 o37.length)], [(3, ro 0 164 3 o37.length (rf e_Cutting_choice o37))]⟩ o0 (by kernel_rfl) (by kernel_rfl) ?_
  obtain rfl := Option.some.inj hm
  refine H_swap 3 0 (by kernel_rfl) ?_
  refine R_ret (by kernel_rfl) ?_
  exact ret_mk (by kernel_rfl) (by kernel_rfl)

end Saw
end Go.SL

namespace Go.SL
namespace Saw
open Go.Proofs
set_option maxHeartbeats 4000000

def cutting_Best_x (r : (List Piece) × Int × Int) : V := .tup [.one (.own 0 0 2 r.1.length), .one (ci r.2.1), .one (ci r.2.2)]

def cutting_Best_o (r : (List Piece) × Int × Int) : List (Nat × (Nat × O)) := [(0, ro 0 98 2 r.1.length (rf e_Piece r.1))]

theorem cutting_Best_f (r : (List Piece) × Int × Int) : Frozen (cutting_Best_o r) := by
  intro i k o h
  unfold cutting_Best_o at h
  rw [look_cons] at h
  split at h
  · cases h; exact fun _ _ => rfl
  · cases h

def cutting_Best_L1_S (a1 : Line) (v5 : (List Cutting_choice)) (l7 : List Piece) (l7n : Nat) (x8 : Int) : St :=
  ⟨[(1, vp 0 0), (6, vo 1 0 3 v5.length), (7, vo 2 0 2 l7n), (8, vi x8)], [(0, bx 64 [ci a1.Len, ci a1.Kerf, ci a1.Pitch, tl e_i64 default a1.Sizes, tl (e_lst e_i64) default a1.Gain, tl e_i64 default a1.Chip, tl e_i64 default a1.Dust]), (1, ro 0 164 3 v5.length (rf e_Cutting_choice v5)), (2, ro 0 98 2 l7n (rf e_Piece l7))]⟩

def cutting_Best_L1_T (v5 : (List Cutting_choice)) (l16 : List Piece) : St :=
  ⟨[(6, vo 1 0 3 v5.length), (7, vo 2 0 2 l16.length)], [(1, ro 0 164 3 v5.length (rf e_Cutting_choice v5)), (2, ro 0 98 2 l16.length (rf e_Piece l16))]⟩

set_option maxRecDepth 100000 in
theorem cutting_Best_L1_ok (E : Env 0) (a1 : Line) (v5 : (List Cutting_choice)) : ∀ (n : Nat) (l7 : List Piece) (l7n : Nat) (x8 : Int) (res : (List Piece)), l7.length = l7n → cutting_Best_L1 a1 v5 n l7 x8 = some res → HL (kx E 47 0) (nd Tryd.f55 500) (loopQ0 0 (fun o => cutting_Best_L1_T v5 o) res) n (cutting_Best_L1_S a1 v5 l7 l7n x8) := by
  intro n
  induction n with
  | zero =>
    intro l7 l7n x8 res hl0 hm
    cases hm
  | succ n ih =>
    intro l7 l7n x8 res hl0 hm
    subst hl0
    refine HL_succ ?_
    refine R_sq Tryd.f55 1000 1001 (by kernel_rfl) ?_
    refine R_sq Tryd.f55 2000 2001 (by kernel_rfl) ?_
    refine R_rn Tryd.f55 2000 7 [] [] 3 ⟨[(1, vp 0 0), (6, vo 1 0 3 v5.length), (7, vo 2 0 2 l7.length), (8, vi x8), (18, vb (decide (x8 ≥ 0)))], [(0, bx 64 [ci a1.Len, ci a1.Kerf, ci a1.Pitch, tl e_i64 default a1.Sizes, tl (e_lst e_i64) default a1.Gain, tl e_i64 default a1.Chip, tl e_i64 default a1.Dust]), (1, ro 0 164 3 v5.length (rf e_Cutting_choice v5)), (2, ro 0 98 2 l7.length (rf e_Piece l7))]⟩ o0 (by kernel_rfl) (by kernel_rfl) ?_
    refine R_cn Tryd.f55 (.tmp 18) 4002 4003 (by kernel_rfl) (decide (x8 ≥ 0)) (by kernel_rfl) (fun b9 => ?_) (fun b9 => ?_)
    · replace hm := bif_t b9 hm
      refine R_skip (by kernel_rfl) ?_
      refine R_bk Tryd.f55 1 2002 (by kernel_rfl) ?_
      refine R_sq Tryd.f55 4004 4005 (by kernel_rfl) ?_
      obtain ⟨g10, hm⟩ := bif_n hm
      refine R_rn Tryd.f55 4004 8 [] [] 3 ⟨[(1, vp 0 0), (6, vo 1 0 3 v5.length), (7, vo 2 0 2 l7.length), (9, vp 3 0)], [(0, bx 64 [ci a1.Len, ci a1.Kerf, ci a1.Pitch, tl e_i64 default a1.Sizes, tl (e_lst e_i64) default a1.Gain, tl e_i64 default a1.Chip, tl e_i64 default a1.Dust]), (1, ro 0 164 3 v5.length (rf e_Cutting_choice v5)), (2, ro 0 98 2 l7.length (rf e_Piece l7)), (3, bx 98 [ci (((v5.getD x8.toNat default).piece).Size), ci (((v5.getD x8.toNat default).piece).At)])]⟩ (o1 (And.intro (inb_of g10) (toNat_lt (inb_of g10)))) (by kernel_rfl) (by kernel_rfl) ?_
      refine R_sq Tryd.f55 8010 8011 (by kernel_rfl) ?_
      refine R_sq Tryd.f55 16020 16021 (by kernel_rfl) ?_
      refine R_rn Tryd.f55 16020 9 [] [] 4 ⟨[(1, vp 0 0), (6, vo 1 0 3 v5.length), (7, vo 2 0 2 l7.length), (9, vp 3 0), (26, vb (((((v5.getD x8.toNat default).piece).Size) == (-1)) && (((((v5.getD x8.toNat default).piece).At) == (-1)) && true)))], [(0, bx 64 [ci a1.Len, ci a1.Kerf, ci a1.Pitch, tl e_i64 default a1.Sizes, tl (e_lst e_i64) default a1.Gain, tl e_i64 default a1.Chip, tl e_i64 default a1.Dust]), (1, ro 0 164 3 v5.length (rf e_Cutting_choice v5)), (2, ro 0 98 2 l7.length (rf e_Piece l7)), (3, bx 98 [ci (((v5.getD x8.toNat default).piece).Size), ci (((v5.getD x8.toNat default).piece).At)])]⟩ o0 (by kernel_rfl) (by kernel_rfl) ?_
      refine R_cn Tryd.f55 (.tmp 26) 32042 32043 (by kernel_rfl) (((((v5.getD x8.toNat default).piece).Size) == (-1)) && (((((v5.getD x8.toNat default).piece).At) == (-1)) && true)) (by kernel_rfl) (fun b11 => ?_) (fun b11 => ?_)
      · replace hm := bif_t b11 hm
        refine R_exit 0 (by kernel_rfl) ?_
        obtain rfl := Option.some.inj hm
        exact L0_mk (by kernel_rfl) (by kernel_rfl)
      · replace hm := bif_f b11 hm
        refine R_skip (by kernel_rfl) ?_
        refine R_sq Tryd.f55 16022 16023 (by kernel_rfl) ?_
        obtain ⟨g12, hm⟩ := bif_n hm
        refine R_rn Tryd.f55 16022 10 [(2, drw 4 0 (rf e_Piece ([(v5.getD x8.toNat default).piece] : List Piece))), (3, drw 2 1 (rf e_Piece (l7 ++ ([(v5.getD x8.toNat default).piece] : List Piece))))] [] 4 ⟨[(1, vp 0 0), (6, vo 1 0 3 v5.length), (7, vo 2 1 2 (l7.length + 1)), (9, vp 3 0)], [(0, bx 64 [ci a1.Len, ci a1.Kerf, ci a1.Pitch, tl e_i64 default a1.Sizes, tl (e_lst e_i64) default a1.Gain, tl e_i64 default a1.Chip, tl e_i64 default a1.Dust]), (1, ro 0 164 3 v5.length (rf e_Cutting_choice v5)), (2, ro 1 98 2 (l7.length + 1) (rf e_Piece (l7 ++ ([(v5.getD x8.toNat default).piece] : List Piece)))), (3, bx 98 [ci (((v5.getD x8.toNat default).piece).Size), ci (((v5.getD x8.toNat default).piece).At)])]⟩ (o1 (And.intro (litP e_Piece default 2 (fun _ => rfl) ([(v5.getD x8.toNat default).piece] : List Piece) 1 rfl) (apP e_Piece default l7 ([(v5.getD x8.toNat default).piece] : List Piece) l7.length 1 2 16 (1 ≤ 1) (Nat.le_refl _) rfl rfl (fun _ => rfl) (room_of g12)))) (by kernel_rfl) (by kernel_rfl) ?_
        obtain ⟨g13, hm⟩ := bif_n hm
        obtain ⟨v14, h15, hm⟩ := bind_s hm
        refine R_dr Tryd.f55 16023 11 [] [(10, dex (cen [] [] 5 0 (cutting_behind_x v14) (cutting_behind_o v14) [31, 40] []))] [] [0, 0, 2, 0, 8, 0, 32, 120, 248, 510, 1023, 2047] 5 ⟨[(1, vp 0 0), (6, vo 1 0 3 v5.length), (7, vo 2 1 2 (l7.length + 1)), (8, vi v14)], [(0, bx 64 [ci a1.Len, ci a1.Kerf, ci a1.Pitch, tl e_i64 default a1.Sizes, tl (e_lst e_i64) default a1.Gain, tl e_i64 default a1.Chip, tl e_i64 default a1.Dust]), (1, ro 0 164 3 v5.length (rf e_Cutting_choice v5)), (2, ro 1 98 2 (l7.length + 1) (rf e_Piece (l7 ++ ([(v5.getD x8.toNat default).piece] : List Piece))))]⟩ (o1 (And.intro (inb_of g13) (callS (K := (kx E 47 0)) ⟨[(31, va [ci a1.Len, ci a1.Kerf, ci a1.Pitch, tl e_i64 default a1.Sizes, tl (e_lst e_i64) default a1.Gain, tl e_i64 default a1.Chip, tl e_i64 default a1.Dust]), (40, vi (w64 ((((v5.getD x8.toNat default).piece).At) + (a1.Sizes.getD (((v5.getD x8.toNat default).piece).Size).toNat default))))], []⟩ (opAt (rg Tryd.f55 16023) 10) [] [] 5 o0 rfl (cutting_behind_ok a1 (w64 ((((v5.getD x8.toNat default).piece).At) + (a1.Sizes.getD (((v5.getD x8.toNat default).piece).Size).toNat default))) v14 h15) (.inl rfl) (by kernel_rfl)))) (by kernel_rfl) (by kernel_rfl) ?_
        exact HL_enter (cutting_Best_L1_S a1 v5 (l7 ++ ([(v5.getD x8.toNat default).piece] : List Piece)) (l7.length + 1) v14) (by kernel_rfl) (by kernel_rfl) (ih (l7 ++ ([(v5.getD x8.toNat default).piece] : List Piece)) (l7.length + 1) v14 _ (len_app rfl rfl) hm)
    · replace hm := bif_f b9 hm
      refine R_exit 0 (by kernel_rfl) ?_
      obtain rfl := Option.some.inj hm
      exact L0_mk (by kernel_rfl) (by kernel_rfl)

set_option maxRecDepth 100000 in
theorem cutting_Best_ok (a1 : Line) (r : (List Piece) × Int × Int) (hm : cutting_Best a1 = some r) : CtX Tryd.prog globs 55 0 0 [.agg [ci a1.Len, ci a1.Kerf, ci a1.Pitch, tl e_i64 default a1.Sizes, tl (e_lst e_i64) default a1.Gain, tl e_i64 default a1.Chip, tl e_i64 default a1.Dust]] [] (cutting_Best_x r) (cutting_Best_o r) := by
  unfold cutting_Best at hm
  refine CtX_of_E (fn := Tryd.f55) (c := nd Tryd.f55 1) (nt := 47) (by kernel_rfl) (by kernel_rfl) (by kernel_rfl) (by kernel_rfl) fun E => ?_
  refine R_sq Tryd.f55 2 3 (by kernel_rfl) ?_
  refine R_rn Tryd.f55 2 0 [] [] 0 ⟨[(1, vp 0 0)], [(0, bx 64 [ci a1.Len, ci a1.Kerf, ci a1.Pitch, tl e_i64 default a1.Sizes, tl (e_lst e_i64) default a1.Gain, tl e_i64 default a1.Chip, tl e_i64 default a1.Dust])]⟩ o0 (by kernel_rfl) (by kernel_rfl) ?_
  refine R_sq Tryd.f55 6 7 (by kernel_rfl) ?_
  refine R_sq Tryd.f55 12 13 (by kernel_rfl) ?_
  obtain ⟨v2, h3, hm⟩ := bind_s hm
  refine R_rn Tryd.f55 12 1 [(1, dex (cen [] [] 1 0 (cutting_Check_x v2) (cutting_Check_o v2) [10] []))] [] 1 ⟨[(1, vp 0 0), (5, vi v2)], [(0, bx 64 [ci a1.Len, ci a1.Kerf, ci a1.Pitch, tl e_i64 default a1.Sizes, tl (e_lst e_i64) default a1.Gain, tl e_i64 default a1.Chip, tl e_i64 default a1.Dust])]⟩ (o1 (callS (K := (kx E 47 0)) ⟨[(10, va [ci a1.Len, ci a1.Kerf, ci a1.Pitch, tl e_i64 default a1.Sizes, tl (e_lst e_i64) default a1.Gain, tl e_i64 default a1.Chip, tl e_i64 default a1.Dust])], []⟩ (opAt (rg Tryd.f55 12) 1) [] [] 1 o0 rfl (cutting_Check_ok a1 v2 h3) (.inl rfl) (by kernel_rfl))) (by kernel_rfl) (by kernel_rfl) ?_
  refine R_sq Tryd.f55 26 27 (by kernel_rfl) ?_
  refine R_rn Tryd.f55 26 2 [] [] 1 ⟨[(1, vp 0 0), (5, vi v2), (13, vb (v2 != 0))], [(0, bx 64 [ci a1.Len, ci a1.Kerf, ci a1.Pitch, tl e_i64 default a1.Sizes, tl (e_lst e_i64) default a1.Gain, tl e_i64 default a1.Chip, tl e_i64 default a1.Dust])]⟩ o0 (by kernel_rfl) (by kernel_rfl) ?_
  refine R_cn Tryd.f55 (.tmp 13) 54 55 (by kernel_rfl) (v2 != 0) (by kernel_rfl) (fun b4 => ?_) (fun b4 => ?_)
  · replace hm := bif_t b4 hm
    refine R_sq Tryd.f55 108 109 (by kernel_rfl) ?_
    refine R_rn Tryd.f55 108 3 [] [] 1 ⟨[(2, vc (.emp)), (3, vi 0), (4, vi v2)], []⟩ o0 (by kernel_rfl) (by kernel_rfl) ?_
    refine H_fin [.own 2 1 98 2 (rf e_Piece ([] : List Piece))] ⟨[(2, vo 1 0 2 0), (3, vi 0), (4, vi v2)], [(1, ro 0 98 2 0 (rf e_Piece ([] : List Piece)))]⟩ o0 (by kernel_rfl) ?_
    refine H_fin [.len 1 (([] : List Piece).length)] ⟨[(2, vo 1 0 2 (([] : List Piece).length)), (3, vi 0), (4, vi v2)], [(1, ro 0 98 2 (([] : List Piece).length) (rf e_Piece ([] : List Piece)))]⟩ (o1 (And.intro (show 0 = ([] : List Piece).length from rfl) (show 0 = ([] : List Piece).length from rfl))) (by kernel_rfl) ?_
    obtain rfl := Option.some.inj hm
    refine H_swap 1 0 (by kernel_rfl) ?_
    refine R_ret (by kernel_rfl) ?_
    exact ret_mk (by kernel_rfl) (by kernel_rfl)
  · replace hm := bif_f b4 hm
    refine R_skip (by kernel_rfl) ?_
    refine R_sq Tryd.f55 14 15 (by kernel_rfl) ?_
    obtain ⟨v5, h6, hm⟩ := bind_s hm
    refine R_rn Tryd.f55 14 4 [(1, dex (cen [] [] 1 0 (cutting_choices_x v5) (cutting_choices_o v5) [15] []))] [] 1 ⟨[(1, vp 0 0), (6, vo 1 0 3 v5.length)], [(0, bx 64 [ci a1.Len, ci a1.Kerf, ci a1.Pitch, tl e_i64 default a1.Sizes, tl (e_lst e_i64) default a1.Gain, tl e_i64 default a1.Chip, tl e_i64 default a1.Dust]), (1, ro 0 164 3 v5.length (rf e_Cutting_choice v5))]⟩ (o1 (callS (K := (kx E 47 0)) ⟨[(15, va [ci a1.Len, ci a1.Kerf, ci a1.Pitch, tl e_i64 default a1.Sizes, tl (e_lst e_i64) default a1.Gain, tl e_i64 default a1.Chip, tl e_i64 default a1.Dust])], []⟩ (opAt (rg Tryd.f55 14) 1) [] [] 1 o0 rfl (cutting_choices_ok a1 v5 h6) (.inl rfl) (by kernel_rfl))) (by kernel_rfl) (by kernel_rfl) ?_
    refine R_sq Tryd.f55 30 31 (by kernel_rfl) ?_
    refine R_rn Tryd.f55 30 5 [] [] 2 ⟨[(1, vp 0 0), (6, vo 1 0 3 v5.length), (7, vc (.emp))], [(0, bx 64 [ci a1.Len, ci a1.Kerf, ci a1.Pitch, tl e_i64 default a1.Sizes, tl (e_lst e_i64) default a1.Gain, tl e_i64 default a1.Chip, tl e_i64 default a1.Dust]), (1, ro 0 164 3 v5.length (rf e_Cutting_choice v5))]⟩ o0 (by kernel_rfl) (by kernel_rfl) ?_
    refine R_sq Tryd.f55 62 63 (by kernel_rfl) ?_
    refine R_sq Tryd.f55 124 125 (by kernel_rfl) ?_
    refine R_rn Tryd.f55 124 6 [] [] 2 ⟨[(1, vp 0 0), (6, vo 1 0 3 v5.length), (7, vc (.emp)), (8, vi 0)], [(0, bx 64 [ci a1.Len, ci a1.Kerf, ci a1.Pitch, tl e_i64 default a1.Sizes, tl (e_lst e_i64) default a1.Gain, tl e_i64 default a1.Chip, tl e_i64 default a1.Dust]), (1, ro 0 164 3 v5.length (rf e_Cutting_choice v5))]⟩ o0 (by kernel_rfl) (by kernel_rfl) ?_
    refine H_fin [.own 7 2 98 2 (rf e_Piece ([] : List Piece))] ⟨[(1, vp 0 0), (6, vo 1 0 3 v5.length), (7, vo 2 0 2 0), (8, vi 0)], [(0, bx 64 [ci a1.Len, ci a1.Kerf, ci a1.Pitch, tl e_i64 default a1.Sizes, tl (e_lst e_i64) default a1.Gain, tl e_i64 default a1.Chip, tl e_i64 default a1.Dust]), (1, ro 0 164 3 v5.length (rf e_Cutting_choice v5)), (2, ro 0 98 2 0 (rf e_Piece ([] : List Piece)))]⟩ o0 (by kernel_rfl) ?_
    obtain ⟨o17, h18, hm⟩ := bind_s hm
    refine R_loop0 (nd Tryd.f55 500) 0 (by kernel_rfl) FUEL (fun o => cutting_Best_L1_T v5 o) o17 (HL_enter (cutting_Best_L1_S a1 v5 ([] : List Piece) 0 0) (by kernel_rfl) (by kernel_rfl) (cutting_Best_L1_ok E a1 v5 FUEL ([] : List Piece) 0 0 o17 rfl h18)) ?_
    refine R_sq Tryd.f55 126 127 (by kernel_rfl) ?_
    obtain ⟨g19, hm⟩ := bif_n hm
    refine R_dr Tryd.f55 126 12 [] [] [] [0, 0, 2, 6, 14, 1, 63, 127] 3 ⟨[(2, vo 2 0 2 o17.length), (3, vi ((v5.getD ((0 : Int).toNat) default).value)), (4, vi 0)], [(2, ro 0 98 2 o17.length (rf e_Piece o17))]⟩ (o1 (And.intro (inb_of g19) (toNat_lt (inb_of g19)))) (by kernel_rfl) (by kernel_rfl) ?_
    obtain rfl := Option.some.inj hm
    refine H_swap 2 0 (by kernel_rfl) ?_
    refine R_ret (by kernel_rfl) ?_
    exact ret_mk (by kernel_rfl) (by kernel_rfl)

end Saw
end Go.SL

namespace Go.SL
namespace Saw
open Go.Proofs
set_option maxHeartbeats 4000000

def pattern_Row_1_s1_x (a1 : List Node) (a2 : Int) (a3 : List Node) (r : Int × (List Node)) : V := .undef

def pattern_Row_1_s1_o (a1 : List Node) (a2 : Int) (a3 : List Node) (r : Int × (List Node)) : List (Nat × (Nat × O)) := [(0, bx 3 [ci r.1]), (1, bx 45 [.own 2 0 2 r.2.length]), (2, ro 0 80 2 r.2.length (rf e_Node r.2))]

theorem pattern_Row_1_s1_f (a1 : List Node) (a2 : Int) (a3 : List Node) (r : Int × (List Node)) : Frozen (pattern_Row_1_s1_o a1 a2 a3 r) := by
  intro i k o h
  unfold pattern_Row_1_s1_o at h
  rw [look_cons] at h
  split at h
  · cases h; rfl
  · rw [look_cons] at h
    split at h
    · cases h; rfl
    · rw [look_cons] at h
      split at h
      · cases h; exact fun _ _ => rfl
      · cases h

set_option maxRecDepth 100000 in
theorem pattern_Row_1_s1_ok (a1 : List Node) (a2 : Int) (a3 : List Node) (r : Int × (List Node)) (hm : pattern_Row_1_s1 a1 a2 a3 = some r) : CtX Tryd.prog globs 89 3 2 [.one (tl e_Node default a1), .one (.bptr 0 0 0), .one (.bptr 1 0 0)] [(0, bx 3 [ci a2]), (1, bx 45 [.own 2 0 2 a3.length]), (2, ro 0 80 2 a3.length (rf e_Node a3))] (pattern_Row_1_s1_x a1 a2 a3 r) (pattern_Row_1_s1_o a1 a2 a3 r) := by
  unfold pattern_Row_1_s1 at hm
  refine CtX_of_E (fn := Tryd.f89) (c := nd Tryd.f89 1) (nt := 13) (by kernel_rfl) (by kernel_rfl) (by kernel_rfl) (by kernel_rfl) fun E => ?_
  refine R_sq Tryd.f89 2 3 (by kernel_rfl) ?_
  refine R_rn Tryd.f89 2 0 [] [] 3 ⟨[(0, vc (tl e_Node default a1)), (1, vp 0 0), (2, vp 1 0)], [(0, bx 3 [ci (w64 (a2 + ((a1.length : Nat) : Int)))]), (1, bx 45 [.own 2 0 2 a3.length]), (2, ro 0 80 2 a3.length (rf e_Node a3))]⟩ o0 (by kernel_rfl) (by kernel_rfl) ?_
  refine R_sq Tryd.f89 6 7 (by kernel_rfl) ?_
  refine R_rn Tryd.f89 6 1 [] [] 3 ⟨[(0, vc (tl e_Node default a1)), (2, vp 1 0), (9, vb (decide ((w64 (a2 + ((a1.length : Nat) : Int))) ≤ 127)))], [(0, bx 3 [ci (w64 (a2 + ((a1.length : Nat) : Int)))]), (1, bx 45 [.own 2 0 2 a3.length]), (2, ro 0 80 2 a3.length (rf e_Node a3))]⟩ o0 (by kernel_rfl) (by kernel_rfl) ?_
  refine R_cn Tryd.f89 (.tmp 9) 14 15 (by kernel_rfl) (decide ((w64 (a2 + ((a1.length : Nat) : Int))) ≤ 127)) (by kernel_rfl) (fun b4 => ?_) (fun b4 => ?_)
  · replace hm := bif_t b4 hm
    obtain ⟨g5, hm⟩ := bif_n hm
    refine R_rn Tryd.f89 14 2 [(2, drw 2 1 (rf e_Node (a3 ++ a1)))] [.len 2 ((a3 ++ a1).length)] 3 ⟨[], [(0, bx 3 [ci (w64 (a2 + ((a1.length : Nat) : Int)))]), (1, bx 45 [.own 2 1 2 ((a3 ++ a1).length)]), (2, ro 1 80 2 ((a3 ++ a1).length) (rf e_Node (a3 ++ a1)))]⟩ (o1 (And.intro (apP e_Node default a3 a1 a3.length a1.length 2 16 (True) trivial rfl rfl (fun _ => rfl) (room_of g5)) (And.intro (Eq.symm (show (a3 ++ a1).length = (a3.length + a1.length) from (len_app rfl rfl))) (And.intro (Eq.symm (show (a3 ++ a1).length = (a3.length + a1.length) from (len_app rfl rfl))) (Eq.symm (show (a3 ++ a1).length = (a3.length + a1.length) from (len_app rfl rfl))))))) (by kernel_rfl) (by kernel_rfl) ?_
    obtain rfl := Option.some.inj hm
    exact ret_mk (by kernel_rfl) (by kernel_rfl)
  · replace hm := bif_f b4 hm
    refine R_skip (by kernel_rfl) ?_
    obtain rfl := Option.some.inj hm
    exact ret_mk (by kernel_rfl) (by kernel_rfl)

end Saw
end Go.SL

namespace Go.SL
namespace Saw
open Go.Proofs
set_option maxHeartbeats 4000000

def pattern_isRip_x (r : Bool) : V := vb r

def pattern_isRip_o (r : Bool) : List (Nat × (Nat × O)) := []

theorem pattern_isRip_f (r : Bool) : Frozen (pattern_isRip_o r) := by
  intro i k o h
  unfold pattern_isRip_o at h
  cases h

def pattern_isRip_k1_S (x3 : Bool) : St :=
  ⟨[(2, vb x3)], []⟩

set_option maxRecDepth 100000 in
theorem pattern_isRip_ok (a1 : Int) (r : Bool) (hm : pattern_isRip a1 = some r) : CtX Tryd.prog globs 80 0 0 [.one (ci a1)] [] (pattern_isRip_x r) (pattern_isRip_o r) := by
  unfold pattern_isRip at hm
  refine CtX_of_E (fn := Tryd.f80) (c := nd Tryd.f80 1) (nt := 9) (by kernel_rfl) (by kernel_rfl) (by kernel_rfl) (by kernel_rfl) fun E => ?_
  refine R_sq Tryd.f80 2 3 (by kernel_rfl) ?_
  refine R_rn Tryd.f80 2 0 [] [] 0 ⟨[(0, vi a1)], []⟩ o0 (by kernel_rfl) (by kernel_rfl) ?_
  refine R_join (ι := Bool) (nd Tryd.f80 6) (nd Tryd.f80 7) (by kernel_rfl) (fun p => pattern_isRip_k1_S p) (fun p => pattern_isRip_k1 p = some r) ?_ ?_
  · rintro x3 hm
    show H _ (pattern_isRip_k1_S x3) (nd Tryd.f80 7) _
    obtain rfl := Option.some.inj hm
    refine R_ret (by kernel_rfl) ?_
    exact ret_mk (by kernel_rfl) (by kernel_rfl)
  · rcases Bool.eq_false_or_eq_true (a1 == 2) with b2 | b2
    · replace hm := bif_t b2 hm
      refine R_rn Tryd.f80 6 1 [(2, dfx true)] [] 0 ⟨[(2, vb true)], []⟩ (o1 b2) (by kernel_rfl) (by kernel_rfl) ?_
      exact J_mk (true) hm (by kernel_rfl) (by kernel_rfl)
    · replace hm := bif_f b2 hm
      refine R_rn Tryd.f80 6 1 [(2, dfx false)] [] 0 ⟨[(2, vb (a1 == 3))], []⟩ (o1 b2) (by kernel_rfl) (by kernel_rfl) ?_
      exact J_mk (a1 == 3) hm (by kernel_rfl) (by kernel_rfl)

end Saw
end Go.SL

namespace Go.SL
namespace Saw
open Go.Proofs
set_option maxHeartbeats 4000000

def pattern_along_x (r : Span) : V := va [ci r.A, ci r.B]

def pattern_along_o (r : Span) : List (Nat × (Nat × O)) := []

theorem pattern_along_f (r : Span) : Frozen (pattern_along_o r) := by
  intro i k o h
  unfold pattern_along_o at h
  cases h

set_option maxRecDepth 100000 in
theorem pattern_along_ok (a1 : Rect) (a2 : Int) (r : Span) (hm : pattern_along a1 a2 = some r) : CtX Tryd.prog globs 90 0 0 [.agg [ci a1.X.A, ci a1.X.B, ci a1.Y.A, ci a1.Y.B], .one (ci a2)] [] (pattern_along_x r) (pattern_along_o r) := by
  unfold pattern_along at hm
  refine CtX_of_E (fn := Tryd.f90) (c := nd Tryd.f90 1) (nt := 11) (by kernel_rfl) (by kernel_rfl) (by kernel_rfl) (by kernel_rfl) fun E => ?_
  refine R_sq Tryd.f90 2 3 (by kernel_rfl) ?_
  refine R_rn Tryd.f90 2 0 [] [] 0 ⟨[(1, vi a2), (2, vp 0 0), (4, vp 1 0)], [(0, bx 35 [ci a1.X.A, ci a1.X.B, ci a1.Y.A, ci a1.Y.B]), (1, bx 33 [ci 0, ci 0])]⟩ o0 (by kernel_rfl) (by kernel_rfl) ?_
  refine R_sq Tryd.f90 6 7 (by kernel_rfl) ?_
  refine R_sq Tryd.f90 12 13 (by kernel_rfl) ?_
  refine R_rn Tryd.f90 12 1 [] [] 2 ⟨[(2, vp 0 0), (4, vp 1 0), (6, vb (a2 == 2))], [(0, bx 35 [ci a1.X.A, ci a1.X.B, ci a1.Y.A, ci a1.Y.B]), (1, bx 33 [ci 0, ci 0])]⟩ o0 (by kernel_rfl) (by kernel_rfl) ?_
  refine R_cn Tryd.f90 (.tmp 6) 26 27 (by kernel_rfl) (a2 == 2) (by kernel_rfl) (fun b3 => ?_) (fun b3 => ?_)
  · replace hm := bif_t b3 hm
    refine R_sq Tryd.f90 52 53 (by kernel_rfl) ?_
    refine R_rn Tryd.f90 52 2 [] [] 2 ⟨[(4, vp 1 0)], [(1, bx 33 [ci a1.X.A, ci a1.X.B])]⟩ o0 (by kernel_rfl) (by kernel_rfl) ?_
    obtain rfl := Option.some.inj hm
    refine R_ret (by kernel_rfl) ?_
    exact ret_mk (by kernel_rfl) (by kernel_rfl)
  · replace hm := bif_f b3 hm
    refine R_skip (by kernel_rfl) ?_
    refine R_sq Tryd.f90 14 15 (by kernel_rfl) ?_
    refine R_rn Tryd.f90 14 3 [] [] 2 ⟨[(4, vp 1 0)], [(1, bx 33 [ci a1.Y.A, ci a1.Y.B])]⟩ o0 (by kernel_rfl) (by kernel_rfl) ?_
    obtain rfl := Option.some.inj hm
    refine R_ret (by kernel_rfl) ?_
    exact ret_mk (by kernel_rfl) (by kernel_rfl)

end Saw
end Go.SL
