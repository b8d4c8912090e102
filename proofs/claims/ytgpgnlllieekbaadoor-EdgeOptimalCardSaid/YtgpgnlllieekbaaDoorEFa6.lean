import Derived.Test.YtgpgnlllieekbaaDoorEBase
import Derived.Test.YtgpgnlllieekbaaDoorEFa5
set_option linter.unusedVariables false
set_option linter.unusedSimpArgs false
namespace Go.SL
namespace Saw
open Go.Proofs
set_option maxHeartbeats 4000000

def cutting_choices_x (r : (List Cutting_choice)) : V := vo 0 0 3 r.length

def cutting_choices_o (r : (List Cutting_choice)) : List (Nat × (Nat × O)) := [(0, ro 0 164 3 r.length (rf e_Cutting_choice r))]

theorem cutting_choices_f (r : (List Cutting_choice)) : Frozen (cutting_choices_o r) := by
 intro i k o h
 unfold cutting_choices_o at h
 rw [look_cons] at h
 split at h
 ·cases h; exact fun _ _ => rfl
 ·cases h

def cutting_choices_k6_S (a1 : Line) (v2 : (List Int)) (v4 : (List Int)) (l7 : List Cutting_choice) (l8 : List Cutting_choice) (x9 : Int) (v11 : Cutting_choice) (x20 : Int) (x31 : Cutting_choice) : St :=
 ⟨[(1, vp 0 0), (3, vo 1 0 1 v2.length), (4, vo 2 0 1 v4.length), (5, vo 3 0 3 l7.length), (6, vo 4 0 3 l8.length), (7, vi x9), (8, vp 5 0), (10, vi x20)], [(0, bx 64 (e_Line a1)), (1, ro 0 3 1 v2.length (rf e_i64 v2)), (2, ro 0 3 1 v4.length (rf e_i64 v4)), (3, ro 0 164 3 l7.length (rf e_Cutting_choice l7)), (4, ro 0 164 3 l8.length (rf e_Cutting_choice (l8.set x9.toNat v11))), (5, bx 164 (e_Cutting_choice x31))]⟩

def cutting_choices_k5_S (a1 : Line) (v2 : (List Int)) (v4 : (List Int)) (l7 : List Cutting_choice) (l8 : List Cutting_choice) (x9 : Int) (v11 : Cutting_choice) (x20 : Int) (x21 : Cutting_choice) (x29 : Bool) : St :=
 ⟨[(1, vp 0 0), (3, vo 1 0 1 v2.length), (4, vo 2 0 1 v4.length), (5, vo 3 0 3 l7.length), (6, vo 4 0 3 l8.length), (7, vi x9), (8, vp 5 0), (10, vi x20), (11, vp 7 0), (125, vb x29)], [(0, bx 64 (e_Line a1)), (1, ro 0 3 1 v2.length (rf e_i64 v2)), (2, ro 0 3 1 v4.length (rf e_i64 v4)), (3, ro 0 164 3 l7.length (rf e_Cutting_choice l7)), (4, ro 0 164 3 l8.length (rf e_Cutting_choice (l8.set x9.toNat v11))), (5, bx 164 (e_Cutting_choice x21)), (7, bx 164 [ci ((((l8.set x9.toNat v11).getD x20.toNat default).piece).Size), ci ((((l8.set x9.toNat v11).getD x20.toNat default).piece).At), ci (w64 ((((l8.set x9.toNat v11).getD x20.toNat default).value) + (w64 ((w64 ((w64 ((v2.getD ((w64 (x20 - a1.Kerf)).toNat) default) - (v2.getD x9.toNat default))) + (v4.getD x20.toNat default))) - (v4.getD ((w64 (x20 - a1.Kerf)).toNat) default)))))])]⟩

def cutting_choices_L4_S (a1 : Line) (v2 : (List Int)) (v4 : (List Int)) (l7 : List Cutting_choice) (l8 : List Cutting_choice) (x9 : Int) (v11 : Cutting_choice) (x20 : Int) (x21 : Cutting_choice) : St :=
 ⟨[(1, vp 0 0), (3, vo 1 0 1 v2.length), (4, vo 2 0 1 v4.length), (5, vo 3 0 3 l7.length), (6, vo 4 0 3 l8.length), (7, vi x9), (8, vp 5 0), (10, vi x20)], [(0, bx 64 (e_Line a1)), (1, ro 0 3 1 v2.length (rf e_i64 v2)), (2, ro 0 3 1 v4.length (rf e_i64 v4)), (3, ro 0 164 3 l7.length (rf e_Cutting_choice l7)), (4, ro 0 164 3 l8.length (rf e_Cutting_choice (l8.set x9.toNat v11))), (5, bx 164 (e_Cutting_choice x21))]⟩

def cutting_choices_L4_T (a1 : Line) (v2 : (List Int)) (v4 : (List Int)) (l7 : List Cutting_choice) (l8 : List Cutting_choice) (x9 : Int) (v11 : Cutting_choice) (x32 : Cutting_choice) : St :=
 ⟨[(1, vp 0 0), (3, vo 1 0 1 v2.length), (4, vo 2 0 1 v4.length), (5, vo 3 0 3 l7.length), (6, vo 4 0 3 l8.length), (7, vi x9), (8, vp 5 0)], [(0, bx 64 (e_Line a1)), (1, ro 0 3 1 v2.length (rf e_i64 v2)), (2, ro 0 3 1 v4.length (rf e_i64 v4)), (3, ro 0 164 3 l7.length (rf e_Cutting_choice l7)), (4, ro 0 164 3 l8.length (rf e_Cutting_choice (l8.set x9.toNat v11))), (5, bx 164 (e_Cutting_choice x32))]⟩

def cutting_choices_k3_S (a1 : Line) (v2 : (List Int)) (v4 : (List Int)) (l7 : List Cutting_choice) (l8 : List Cutting_choice) (x9 : Int) (v11 : Cutting_choice) (x19 : Cutting_choice) : St :=
 ⟨[(1, vp 0 0), (3, vo 1 0 1 v2.length), (4, vo 2 0 1 v4.length), (5, vo 3 0 3 l7.length), (6, vo 4 0 3 l8.length), (7, vi x9), (8, vp 5 0)], [(0, bx 64 (e_Line a1)), (1, ro 0 3 1 v2.length (rf e_i64 v2)), (2, ro 0 3 1 v4.length (rf e_i64 v4)), (3, ro 0 164 3 l7.length (rf e_Cutting_choice l7)), (4, ro 0 164 3 l8.length (rf e_Cutting_choice (l8.set x9.toNat v11))), (5, bx 164 (e_Cutting_choice x19))]⟩

def cutting_choices_k2_S (a1 : Line) (v2 : (List Int)) (v4 : (List Int)) (l7 : List Cutting_choice) (l8 : List Cutting_choice) (x9 : Int) (v11 : Cutting_choice) (x17 : Bool) : St :=
 ⟨[(1, vp 0 0), (3, vo 1 0 1 v2.length), (4, vo 2 0 1 v4.length), (5, vo 3 0 3 l7.length), (6, vo 4 0 3 l8.length), (7, vi x9), (8, vp 5 0), (9, vp 6 0), (67, vb x17)], [(0, bx 64 (e_Line a1)), (1, ro 0 3 1 v2.length (rf e_i64 v2)), (2, ro 0 3 1 v4.length (rf e_i64 v4)), (3, ro 0 164 3 l7.length (rf e_Cutting_choice l7)), (4, ro 0 164 3 l8.length (rf e_Cutting_choice (l8.set x9.toNat v11))), (5, bx 164 [ci (-1), ci (-1), ci (w64 ((v2.getD a1.Len.toNat default) - (v2.getD x9.toNat default)))]), (6, bx 164 [ci ((((l8.set x9.toNat v11).getD x9.toNat default).piece).Size), ci ((((l8.set x9.toNat v11).getD x9.toNat default).piece).At), ci (((l8.set x9.toNat v11).getD x9.toNat default).value)])]⟩

def cutting_choices_L1_S (a1 : Line) (v2 : (List Int)) (v4 : (List Int)) (l7 : List Cutting_choice) (l7n : Nat) (l8 : List Cutting_choice) (l8n : Nat) (x9 : Int) : St :=
 ⟨[(1, vp 0 0), (3, vo 1 0 1 v2.length), (4, vo 2 0 1 v4.length), (5, vo 3 0 3 l7n), (6, vo 4 0 3 l8n), (7, vi x9)], [(0, bx 64 (e_Line a1)), (1, ro 0 3 1 v2.length (rf e_i64 v2)), (2, ro 0 3 1 v4.length (rf e_i64 v4)), (3, ro 0 164 3 l7n (rf e_Cutting_choice l7)), (4, ro 0 164 3 l8n (rf e_Cutting_choice l8))]⟩

def cutting_choices_L1_T (l36 : List Cutting_choice) : St :=
 ⟨[(5, vo 3 0 3 l36.length)], [(3, ro 0 164 3 l36.length (rf e_Cutting_choice l36))]⟩

set_option maxRecDepth 100000 in
theorem cutting_choices_L4_ok (E : Env 0) (a1 : Line) (v2 : (List Int)) (v4 : (List Int)) (l7 : List Cutting_choice) (l8 : List Cutting_choice) (x9 : Int) (v11 : Cutting_choice) : ∀ (n : Nat) (x20 : Int) (x21 : Cutting_choice) (res : Cutting_choice), cutting_choices_L4 a1 v2 v4 l8 x9 v11 n x20 x21 = some res → HL (kx E 132 0) (nd Tryd.f86 512628) (loopQ0 2 (fun o => cutting_choices_L4_T a1 v2 v4 l7 l8 x9 v11 o) res) n (cutting_choices_L4_S a1 v2 v4 l7 l8 x9 v11 x20 x21) := by
 intro n
 induction n with
 | zero =>
  intro x20 x21 res hm
  cases hm
 | succ n ih =>
  intro x20 x21 res hm
  refine HL_succ ?_
  refine q_sq ?_
  refine q_sq ?_
  refine q_vu [] 7 [] [(79, vb (decide (x20 ≤ a1.Len)))] [] [] ?_
  refine q_cn (decide (x20 ≤ a1.Len)) (fun b22 => ?_) (fun b22 => ?_)
  ·replace hm := bif_t b22 hm
   refine q_sk ?_
   refine q_jn (ι := Cutting_choice) (fun p => cutting_choices_k6_S a1 v2 v4 l7 l8 x9 v11 x20 p) (fun p => cutting_choices_k6 a1 x20 (cutting_choices_L4 a1 v2 v4 l8 x9 v11 n) p = some res) ?_ ?_
   ·rintro x31 hm
    show H _ (cutting_choices_k6_S a1 v2 v4 l7 l8 x9 v11 x20 x31) _ _
    refine q_vu [] 8 [10] [(10, vi (w64 (x20 + a1.Pitch)))] [] [] ?_
    exact q_hl (cutting_choices_L4_S a1 v2 v4 l7 l8 x9 v11 (w64 (x20 + a1.Pitch)) x31) (ih (w64 (x20 + a1.Pitch)) x31 _ hm)
   ·refine q_bk 3 ?_
    refine q_sq ?_
    obtain ⟨g23, hm⟩ := bif_n hm
    refine q_vu [qd 2 (Dir.none) (inb_of g23), qd 3 (Dir.none) (toNat_lt (inb_of g23))] 7 [79] [(11, vp 7 0)] [] [(7, bx 164 [ci ((((l8.set x9.toNat v11).getD x20.toNat default).piece).Size), ci ((((l8.set x9.toNat v11).getD x20.toNat default).piece).At), ci (((l8.set x9.toNat v11).getD x20.toNat default).value)])] ?_
    refine q_sq ?_
    refine q_vu [] 8 [] [(12, vi (w64 (x20 - a1.Kerf)))] [] [] ?_
    refine q_sq ?_
    obtain ⟨g24, hm⟩ := bif_n hm
    obtain ⟨g25, hm⟩ := bif_n hm
    obtain ⟨g26, hm⟩ := bif_n hm
    obtain ⟨g27, hm⟩ := bif_n hm
    refine q_du [qd 4 (Dir.none) (inb_of g24), qd 5 (Dir.none) (toNat_lt (inb_of g24)), qd 8 (Dir.none) (inb_of g25), qd 9 (Dir.none) (toNat_lt (inb_of g25)), qd 13 (Dir.none) (inb_of g26), qd 14 (Dir.none) (toNat_lt (inb_of g26)), qd 18 (Dir.none) (inb_of g27), qd 19 (Dir.none) (toNat_lt (inb_of g27))] [0, 1, 0, 0, 12, 28, 0, 0, 192, 448, 1020, 0, 0, 6144, 14336, 32764, 0, 0, 196608, 458752, 1048572, 2097151, 4194303, 8388607] 8 [12] [] [7] [(7, bx 164 [ci ((((l8.set x9.toNat v11).getD x20.toNat default).piece).Size), ci ((((l8.set x9.toNat v11).getD x20.toNat default).piece).At), ci (w64 ((((l8.set x9.toNat v11).getD x20.toNat default).value) + (w64 ((w64 ((w64 ((v2.getD ((w64 (x20 - a1.Kerf)).toNat) default) - (v2.getD x9.toNat default))) + (v4.getD x20.toNat default))) - (v4.getD ((w64 (x20 - a1.Kerf)).toNat) default)))))])] ?_
    refine q_jn (ι := Bool) (fun p => cutting_choices_k5_S a1 v2 v4 l7 l8 x9 v11 x20 x21 p) (fun p => cutting_choices_k5 a1 v2 v4 l8 x9 v11 x20 x21 (cutting_choices_L4 a1 v2 v4 l8 x9 v11 n) p = some res) ?_ ?_
    ·rintro x29 hm
     show H _ (cutting_choices_k5_S a1 v2 v4 l7 l8 x9 v11 x20 x21 x29) _ _
     refine q_cn x29 (fun b30 => ?_) (fun b30 => ?_)
     ·replace hm := bif_t b30 hm
      refine q_vu [] 8 [11, 125] [] [5, 7] [(5, bx 164 [ci ((((l8.set x9.toNat v11).getD x20.toNat default).piece).Size), ci ((((l8.set x9.toNat v11).getD x20.toNat default).piece).At), ci (w64 ((((l8.set x9.toNat v11).getD x20.toNat default).value) + (w64 ((w64 ((w64 ((v2.getD ((w64 (x20 - a1.Kerf)).toNat) default) - (v2.getD x9.toNat default))) + (v4.getD x20.toNat default))) - (v4.getD ((w64 (x20 - a1.Kerf)).toNat) default)))))])] ?_
      exact q_J ((Cutting_choice.mk (((l8.set x9.toNat v11).getD x20.toNat default).piece) (w64 ((((l8.set x9.toNat v11).getD x20.toNat default).value) + (w64 ((w64 ((w64 ((v2.getD ((w64 (x20 - a1.Kerf)).toNat) default) - (v2.getD x9.toNat default))) + (v4.getD x20.toNat default))) - (v4.getD ((w64 (x20 - a1.Kerf)).toNat) default))))))) hm
     ·replace hm := bif_f b30 hm
      refine q_sk ?_
      exact q_J (x21) hm
    ·rcases Bool.eq_false_or_eq_true (!((((((l8.set x9.toNat v11).getD x20.toNat default).piece).Size) == (-1)) && ((((((l8.set x9.toNat v11).getD x20.toNat default).piece).At) == (-1)) && true))) with b28 | b28
     ·replace hm := bif_t b28 hm
      refine q_vu [qf 4 b28] 8 [] [(120, vp 7 2), (121, vi (w64 ((((l8.set x9.toNat v11).getD x20.toNat default).value) + (w64 ((w64 ((w64 ((v2.getD ((w64 (x20 - a1.Kerf)).toNat) default) - (v2.getD x9.toNat default))) + (v4.getD x20.toNat default))) - (v4.getD ((w64 (x20 - a1.Kerf)).toNat) default)))))), (122, vp 5 2), (123, vi x21.value), (124, vb (decide ((w64 ((((l8.set x9.toNat v11).getD x20.toNat default).value) + (w64 ((w64 ((w64 ((v2.getD ((w64 (x20 - a1.Kerf)).toNat) default) - (v2.getD x9.toNat default))) + (v4.getD x20.toNat default))) - (v4.getD ((w64 (x20 - a1.Kerf)).toNat) default))))) > x21.value))), (125, vb (decide ((w64 ((((l8.set x9.toNat v11).getD x20.toNat default).value) + (w64 ((w64 ((w64 ((v2.getD ((w64 (x20 - a1.Kerf)).toNat) default) - (v2.getD x9.toNat default))) + (v4.getD x20.toNat default))) - (v4.getD ((w64 (x20 - a1.Kerf)).toNat) default))))) > x21.value)))] [] [] ?_
      exact q_J (decide ((w64 ((((l8.set x9.toNat v11).getD x20.toNat default).value) + (w64 ((w64 ((w64 ((v2.getD ((w64 (x20 - a1.Kerf)).toNat) default) - (v2.getD x9.toNat default))) + (v4.getD x20.toNat default))) - (v4.getD ((w64 (x20 - a1.Kerf)).toNat) default))))) > x21.value)) hm
     ·replace hm := bif_f b28 hm
      refine q_vu [qf 4 b28] 8 [] [(125, vb false)] [] [] ?_
      exact q_J (false) hm
  ·replace hm := bif_f b22 hm
   refine q_ex 2 ?_
   obtain rfl := Option.some.inj hm
   exact L0_mk (by kernel_rfl) (by kernel_rfl)

set_option maxRecDepth 100000 in
theorem cutting_choices_L1_ok (E : Env 0) (a1 : Line) (v2 : (List Int)) (v4 : (List Int)) : ∀ (n : Nat) (l7 : List Cutting_choice) (l7n : Nat) (l8 : List Cutting_choice) (l8n : Nat) (x9 : Int) (res : (List Cutting_choice)), l7.length = l7n → l8.length = l8n → cutting_choices_L1 a1 v2 v4 n l7 l8 x9 = some res → HL (kx E 132 0) (nd Tryd.f86 500) (loopQ0 0 (fun o => cutting_choices_L1_T o) res) n (cutting_choices_L1_S a1 v2 v4 l7 l7n l8 l8n x9) := by
 intro n
 induction n with
 | zero =>
  intro l7 l7n l8 l8n x9 res hl0 hl1 hm
  cases hm
 | succ n ih =>
  intro l7 l7n l8 l8n x9 res hl0 hl1 hm
  subst hl0
  subst hl1
  refine HL_succ ?_
  refine q_sq ?_
  refine q_sq ?_
  refine q_vu [] 5 [] [(30, vb (decide (x9 ≥ 0)))] [] [] ?_
  refine q_cn (decide (x9 ≥ 0)) (fun b10 => ?_) (fun b10 => ?_)
  ·replace hm := bif_t b10 hm
   refine q_sk ?_
   refine q_sq ?_
   refine q_bk 1 ?_
   refine q_sq ?_
   obtain ⟨v11, h12, hm⟩ := bind_s hm
   obtain ⟨g13, hm⟩ := bif_n hm
   refine q_vu [qd 6 (dex (cen [] [] 5 0 (cutting_start_x v11) (cutting_start_o v11) [35, 36, 37, 38] [2, 3])) (callS (K := (kx E 132 0)) (b := false) ⟨[(35, va (e_Line a1)), (36, vi x9), (37, vo 2 0 1 v4.length), (38, vo 3 0 3 l7.length)], [(2, ro 0 3 1 v4.length (rf e_i64 v4)), (3, ro 0 164 3 l7.length (rf e_Cutting_choice l7))]⟩ (opAt (rg Tryd.f86 8008) 6) [] [] 5 (o1 (And.intro (Nat.le_refl v4.length) (Nat.le_refl l7.length))) rfl (cutting_start_ok a1 x9 v4 l7 v11 h12) (.inr ⟨(by kernel_rfl), cutting_start_f v11⟩) (by kernel_rfl)), qd 7 (Dir.none) (inb_of g13), qd 8 (drw 0 0 (rf e_Cutting_choice (l8.set x9.toNat v11))) (stP e_Cutting_choice default v11 l8 l8.length x9.toNat 0 (e_Cutting_choice v11) rfl (toNat_lt (inb_of g13)) rfl)] 5 [30] [] [4] [(4, ro 0 164 3 l8.length (rf e_Cutting_choice (l8.set x9.toNat v11)))] ?_
   refine q_sq ?_
   obtain ⟨g14, hm⟩ := bif_n hm
   obtain ⟨g15, hm⟩ := bif_n hm
   refine q_du [qd 4 (Dir.none) (inb_of g14), qd 5 (Dir.none) (toNat_lt (inb_of g14)), qd 8 (Dir.none) (inb_of g15), qd 9 (Dir.none) (toNat_lt (inb_of g15))] [0, 0, 0, 4, 14, 30, 0, 0, 192, 448, 1022, 2047, 0, 8191] 5 [] [(8, vp 5 0)] [] [(5, bx 164 [ci (-1), ci (-1), ci (w64 ((v2.getD a1.Len.toNat default) - (v2.getD x9.toNat default)))])] ?_
   refine q_jn (ι := Cutting_choice) (fun p => cutting_choices_k3_S a1 v2 v4 l7 l8 x9 v11 p) (fun p => cutting_choices_k3 a1 v2 v4 l7 l8 x9 (cutting_choices_L1 a1 v2 v4 n) v11 p = some res) ?_ ?_
   ·rintro x19 hm
    show H _ (cutting_choices_k3_S a1 v2 v4 l7 l8 x9 v11 x19) _ _
    refine q_sq ?_
    refine q_sq ?_
    refine q_vu [] 7 [] [(10, vi (w64 ((w64 (x9 + a1.Pitch)) + a1.Kerf)))] [] [] ?_
    obtain ⟨o33, h34, hm⟩ := bind_s hm
    refine R_loop0 (nd Tryd.f86 512628) 2 (by kernel_rfl) FUEL (fun o => cutting_choices_L4_T a1 v2 v4 l7 l8 x9 v11 o) o33 (q_hl (cutting_choices_L4_S a1 v2 v4 l7 l8 x9 v11 (w64 ((w64 (x9 + a1.Pitch)) + a1.Kerf)) x19) (cutting_choices_L4_ok E a1 v2 v4 l7 l8 x9 v11 FUEL (w64 ((w64 (x9 + a1.Pitch)) + a1.Kerf)) x19 o33 h34)) ?_
    obtain ⟨g35, hm⟩ := bif_n hm
    refine q_vu [qd 3 (Dir.none) (inb_of g35), qd 4 (drw 0 0 (rf e_Cutting_choice (l7.set x9.toNat o33))) (stP e_Cutting_choice default o33 l7 l7.length x9.toNat 0 (e_Cutting_choice o33) rfl (toNat_lt (inb_of g35)) rfl)] 7 [8] [] [3, 5] [(3, ro 0 164 3 l7.length (rf e_Cutting_choice (l7.set x9.toNat o33)))] ?_
    refine q_vu [] 7 [7] [(7, vi (w64 (x9 - 1)))] [] [] ?_
    exact q_hl (cutting_choices_L1_S a1 v2 v4 (l7.set x9.toNat o33) l7.length (l8.set x9.toNat v11) l8.length (w64 (x9 - 1))) (ih (l7.set x9.toNat o33) l7.length (l8.set x9.toNat v11) l8.length (w64 (x9 - 1)) _ (len_set rfl) (len_set rfl) hm)
   ·refine q_sq ?_
    refine q_vu [qd 2 (Dir.none) (inb_of g13), qd 3 (Dir.none) (toNat_lt (inb_of g13))] 6 [] [(9, vp 6 0)] [] [(6, bx 164 [ci ((((l8.set x9.toNat v11).getD x9.toNat default).piece).Size), ci ((((l8.set x9.toNat v11).getD x9.toNat default).piece).At), ci (((l8.set x9.toNat v11).getD x9.toNat default).value)])] ?_
    refine q_jn (ι := Bool) (fun p => cutting_choices_k2_S a1 v2 v4 l7 l8 x9 v11 p) (fun p => cutting_choices_k2 a1 v2 v4 l7 l8 x9 (cutting_choices_L1 a1 v2 v4 n) v11 p = some res) ?_ ?_
    ·rintro x17 hm
     show H _ (cutting_choices_k2_S a1 v2 v4 l7 l8 x9 v11 x17) _ _
     refine q_cn x17 (fun b18 => ?_) (fun b18 => ?_)
     ·replace hm := bif_t b18 hm
      refine q_vu [] 7 [9, 67] [] [5, 6] [(5, bx 164 [ci ((((l8.set x9.toNat v11).getD x9.toNat default).piece).Size), ci ((((l8.set x9.toNat v11).getD x9.toNat default).piece).At), ci (((l8.set x9.toNat v11).getD x9.toNat default).value)])] ?_
      exact q_J (((l8.set x9.toNat v11).getD x9.toNat default)) hm
     ·replace hm := bif_f b18 hm
      refine q_sk ?_
      exact q_J ((Cutting_choice.mk (Piece.mk (-1) (-1)) (w64 ((v2.getD a1.Len.toNat default) - (v2.getD x9.toNat default))))) hm
    ·rcases Bool.eq_false_or_eq_true (!((((((l8.set x9.toNat v11).getD x9.toNat default).piece).Size) == (-1)) && ((((((l8.set x9.toNat v11).getD x9.toNat default).piece).At) == (-1)) && true))) with b16 | b16
     ·replace hm := bif_t b16 hm
      refine q_vu [qf 4 b16] 7 [] [(62, vp 6 2), (63, vi (((l8.set x9.toNat v11).getD x9.toNat default).value)), (64, vp 5 2), (65, vi (w64 ((v2.getD a1.Len.toNat default) - (v2.getD x9.toNat default)))), (66, vb (decide ((((l8.set x9.toNat v11).getD x9.toNat default).value) > (w64 ((v2.getD a1.Len.toNat default) - (v2.getD x9.toNat default)))))), (67, vb (decide ((((l8.set x9.toNat v11).getD x9.toNat default).value) > (w64 ((v2.getD a1.Len.toNat default) - (v2.getD x9.toNat default))))))] [] [] ?_
      exact q_J (decide ((((l8.set x9.toNat v11).getD x9.toNat default).value) > (w64 ((v2.getD a1.Len.toNat default) - (v2.getD x9.toNat default))))) hm
     ·replace hm := bif_f b16 hm
      refine q_vu [qf 4 b16] 7 [] [(67, vb false)] [] [] ?_
      exact q_J (false) hm
  ·replace hm := bif_f b10 hm
   refine q_ex 0 ?_
   obtain rfl := Option.some.inj hm
   exact L0_mk (by kernel_rfl) (by kernel_rfl)

set_option maxRecDepth 100000 in
theorem cutting_choices_ok (a1 : Line) (r : (List Cutting_choice)) (hm : cutting_choices a1 = some r) : CtX Tryd.prog globs 86 0 0 [.agg (e_Line a1)] [] (cutting_choices_x r) (cutting_choices_o r) := by
 unfold cutting_choices at hm
 refine q_E Tryd.f86 132 fun E => ?_
 refine q_sq ?_
 refine q_vn [] 0 ⟨[(1, vp 0 0)], [(0, bx 64 (e_Line a1))]⟩ ?_
 refine q_sq ?_
 obtain ⟨v2, h3, hm⟩ := bind_s hm
 obtain ⟨v4, h5, hm⟩ := bind_s hm
 refine q_du [qc 2 [14] 1 (cutting_sums_ok a1.Chip v2 h3), qc 5 [17] 2 (cutting_sums_ok a1.Dust v4 h5)] [0, 1, 3, 0, 8, 31, 63, 127] 1 [] [(3, vo 1 0 1 v2.length), (4, vo 2 0 1 v4.length)] [] [(1, ro 0 3 1 v2.length (rf e_i64 v2)), (2, ro 0 3 1 v4.length (rf e_i64 v4))] ?_
 refine q_sq ?_
 obtain ⟨g6, hm⟩ := bif_n hm
 refine q_vu [qd 3 (drw 3 0 (rf e_Cutting_choice (List.replicate ((w64 (a1.Len + 1)).toNat) (Cutting_choice.mk (Piece.mk 0 0) 0)))) (mkP e_Cutting_choice default (Cutting_choice.mk (Piece.mk 0 0) 0) (w64 (a1.Len + 1)) 24 [ci 0, ci 0, ci 0] (mkOk_of g6) rfl)] 3 [] [(5, vo 3 0 3 ((w64 (a1.Len + 1)).toNat))] [] [(3, ro 0 164 3 ((w64 (a1.Len + 1)).toNat) (rf e_Cutting_choice (List.replicate ((w64 (a1.Len + 1)).toNat) (Cutting_choice.mk (Piece.mk 0 0) 0))))] ?_
 refine q_sq ?_
 refine q_vu [qd 3 (drw 4 0 (rf e_Cutting_choice (List.replicate ((w64 (a1.Len + 1)).toNat) (Cutting_choice.mk (Piece.mk 0 0) 0)))) (mkP e_Cutting_choice default (Cutting_choice.mk (Piece.mk 0 0) 0) (w64 (a1.Len + 1)) 24 [ci 0, ci 0, ci 0] (mkOk_of g6) rfl)] 4 [] [(6, vo 4 0 3 ((w64 (a1.Len + 1)).toNat))] [] [(4, ro 0 164 3 ((w64 (a1.Len + 1)).toNat) (rf e_Cutting_choice (List.replicate ((w64 (a1.Len + 1)).toNat) (Cutting_choice.mk (Piece.mk 0 0) 0))))] ?_
 refine q_sq ?_
 refine q_sq ?_
 refine q_vu [] 5 [] [(7, vi a1.Len)] [] [] ?_
 obtain ⟨o37, h38, hm⟩ := bind_s hm
 refine R_loop0 (nd Tryd.f86 500) 0 (by kernel_rfl) FUEL (fun o => cutting_choices_L1_T o) o37 (q_hl (cutting_choices_L1_S a1 v2 v4 (List.replicate ((w64 (a1.Len + 1)).toNat) (Cutting_choice.mk (Piece.mk 0 0) 0)) ((w64 (a1.Len + 1)).toNat) (List.replicate ((w64 (a1.Len + 1)).toNat) (Cutting_choice.mk (Piece.mk 0 0) 0)) ((w64 (a1.Len + 1)).toNat) a1.Len) (cutting_choices_L1_ok E a1 v2 v4 FUEL (List.replicate ((w64 (a1.Len + 1)).toNat) (Cutting_choice.mk (Piece.mk 0 0) 0)) ((w64 (a1.Len + 1)).toNat) (List.replicate ((w64 (a1.Len + 1)).toNat) (Cutting_choice.mk (Piece.mk 0 0) 0)) ((w64 (a1.Len + 1)).toNat) a1.Len o37 len_rep len_rep h38)) ?_
 refine q_sq ?_
 refine q_vu [] 5 [5] [(2, vo 3 0 3 o37.length)] [] [] ?_
 obtain rfl := Option.some.inj hm
 refine H_swap 3 0 (by kernel_rfl) ?_
 refine q_rt ?_
 exact q_rm

end Saw
end Go.SL

namespace Go.SL
namespace Saw
open Go.Proofs
set_option maxHeartbeats 4000000

def cutting_Best_x (r : (List Piece) × Int × Int) : V := .tup [.one (.own 0 0 2 r.1.length), .one (ci r.2.1), .one (ci r.2.2)]

def cutting_Best_o (r : (List Piece) × Int × Int) : List (Nat × (Nat × O)) := [(0, ro 0 98 2 r.1.length (rf e_Piece r.1))]

theorem cutting_Best_f (r : (List Piece) × Int × Int) : Frozen (cutting_Best_o r) := by
 intro i k o h
 unfold cutting_Best_o at h
 rw [look_cons] at h
 split at h
 ·cases h; exact fun _ _ => rfl
 ·cases h

def cutting_Best_L1_S (a1 : Line) (v5 : (List Cutting_choice)) (l7 : List Piece) (l7n : Nat) (x8 : Int) : St :=
 ⟨[(1, vp 0 0), (6, vo 1 0 3 v5.length), (7, vo 2 0 2 l7n), (8, vi x8)], [(0, bx 64 (e_Line a1)), (1, ro 0 164 3 v5.length (rf e_Cutting_choice v5)), (2, ro 0 98 2 l7n (rf e_Piece l7))]⟩

def cutting_Best_L1_T (v5 : (List Cutting_choice)) (l16 : List Piece) : St :=
 ⟨[(6, vo 1 0 3 v5.length), (7, vo 2 0 2 l16.length)], [(1, ro 0 164 3 v5.length (rf e_Cutting_choice v5)), (2, ro 0 98 2 l16.length (rf e_Piece l16))]⟩

set_option maxRecDepth 100000 in
theorem cutting_Best_L1_ok (E : Env 0) (a1 : Line) (v5 : (List Cutting_choice)) : ∀ (n : Nat) (l7 : List Piece) (l7n : Nat) (x8 : Int) (res : (List Piece)), l7.length = l7n → cutting_Best_L1 a1 v5 n l7 x8 = some res → HL (kx E 47 0) (nd Tryd.f55 500) (loopQ0 0 (fun o => cutting_Best_L1_T v5 o) res) n (cutting_Best_L1_S a1 v5 l7 l7n x8) := by
 intro n
 induction n with
 | zero =>
  intro l7 l7n x8 res hl0 hm
  cases hm
 | succ n ih =>
  intro l7 l7n x8 res hl0 hm
  subst hl0
  refine HL_succ ?_
  refine q_sq ?_
  refine q_sq ?_
  refine q_vu [] 3 [] [(18, vb (decide (x8 ≥ 0)))] [] [] ?_
  refine q_cn (decide (x8 ≥ 0)) (fun b9 => ?_) (fun b9 => ?_)
  ·replace hm := bif_t b9 hm
   refine q_sk ?_
   refine q_bk 1 ?_
   refine q_sq ?_
   obtain ⟨g10, hm⟩ := bif_n hm
   refine q_vu [qd 2 (Dir.none) (inb_of g10), qd 4 (Dir.none) (toNat_lt (inb_of g10))] 3 [8, 18] [(9, vp 3 0)] [] [(3, bx 98 [ci (((v5.getD x8.toNat default).piece).Size), ci (((v5.getD x8.toNat default).piece).At)])] ?_
   refine q_sq ?_
   refine q_sq ?_
   refine q_vu [] 4 [] [(26, vb (((((v5.getD x8.toNat default).piece).Size) == (-1)) && (((((v5.getD x8.toNat default).piece).At) == (-1)) && true)))] [] [] ?_
   refine q_cn (((((v5.getD x8.toNat default).piece).Size) == (-1)) && (((((v5.getD x8.toNat default).piece).At) == (-1)) && true)) (fun b11 => ?_) (fun b11 => ?_)
   ·replace hm := bif_t b11 hm
    refine q_ex 0 ?_
    obtain rfl := Option.some.inj hm
    exact L0_mk (by kernel_rfl) (by kernel_rfl)
   ·replace hm := bif_f b11 hm
    refine q_sk ?_
    refine q_sq ?_
    obtain ⟨g12, hm⟩ := bif_n hm
    refine q_vu [qd 2 (drw 4 0 (rf e_Piece ([(v5.getD x8.toNat default).piece] : List Piece))) (litP e_Piece default 2 (fun _ => rfl) ([(v5.getD x8.toNat default).piece] : List Piece) 1 rfl), qd 3 (drw 2 1 (rf e_Piece (l7 ++ ([(v5.getD x8.toNat default).piece] : List Piece)))) (apP e_Piece default l7 ([(v5.getD x8.toNat default).piece] : List Piece) l7.length 1 2 16 (1 ≤ 1) (Nat.le_refl _) rfl rfl (fun _ => rfl) (room_of g12))] 4 [7, 26] [(7, vo 2 1 2 (l7.length + 1))] [2] [(2, ro 1 98 2 (l7.length + 1) (rf e_Piece (l7 ++ ([(v5.getD x8.toNat default).piece] : List Piece))))] ?_
    obtain ⟨g13, hm⟩ := bif_n hm
    obtain ⟨v14, h15, hm⟩ := bind_s hm
    refine q_du [qd 7 (Dir.none) (inb_of g13), qc 10 [31, 40] 5 (cutting_behind_ok a1 (w64 ((((v5.getD x8.toNat default).piece).At) + (a1.Sizes.getD (((v5.getD x8.toNat default).piece).Size).toNat default))) v14 h15)] [0, 0, 2, 0, 8, 0, 32, 120, 248, 510, 1023, 2047] 5 [9] [(8, vi v14)] [3] [] ?_
    exact q_hl (cutting_Best_L1_S a1 v5 (l7 ++ ([(v5.getD x8.toNat default).piece] : List Piece)) (l7.length + 1) v14) (ih (l7 ++ ([(v5.getD x8.toNat default).piece] : List Piece)) (l7.length + 1) v14 _ (len_app rfl rfl) hm)
  ·replace hm := bif_f b9 hm
   refine q_ex 0 ?_
   obtain rfl := Option.some.inj hm
   exact L0_mk (by kernel_rfl) (by kernel_rfl)

set_option maxRecDepth 100000 in
theorem cutting_Best_ok (a1 : Line) (r : (List Piece) × Int × Int) (hm : cutting_Best a1 = some r) : CtX Tryd.prog globs 55 0 0 [.agg (e_Line a1)] [] (cutting_Best_x r) (cutting_Best_o r) := by
 unfold cutting_Best at hm
 refine q_E Tryd.f55 47 fun E => ?_
 refine q_sq ?_
 refine q_vn [] 0 ⟨[(1, vp 0 0)], [(0, bx 64 (e_Line a1))]⟩ ?_
 refine q_sq ?_
 refine q_sq ?_
 obtain ⟨v2, h3, hm⟩ := bind_s hm
 refine q_vu [qc 1 [10] 1 (cutting_Check_ok a1 v2 h3)] 1 [] [(5, vi v2)] [] [] ?_
 refine q_sq ?_
 refine q_vu [] 1 [] [(13, vb (v2 != 0))] [] [] ?_
 refine q_cn (v2 != 0) (fun b4 => ?_) (fun b4 => ?_)
 ·replace hm := bif_t b4 hm
  refine q_sq ?_
  refine q_vn [] 1 ⟨[(2, vc (.emp)), (3, vi 0), (4, vi v2)], []⟩ ?_
  refine q_fn [.own 2 1 98 2 (rf e_Piece ([] : List Piece))] ⟨[(2, vo 1 0 2 0), (3, vi 0), (4, vi v2)], [(1, ro 0 98 2 0 (rf e_Piece ([] : List Piece)))]⟩ o0 ?_
  refine q_fn [.len 1 (([] : List Piece).length)] ⟨[(2, vo 1 0 2 (([] : List Piece).length)), (3, vi 0), (4, vi v2)], [(1, ro 0 98 2 (([] : List Piece).length) (rf e_Piece ([] : List Piece)))]⟩ (o1 (And.intro (show 0 = ([] : List Piece).length from rfl) (show 0 = ([] : List Piece).length from rfl))) ?_
  obtain rfl := Option.some.inj hm
  refine H_swap 1 0 (by kernel_rfl) ?_
  refine q_rt ?_
  exact q_rm
 ·replace hm := bif_f b4 hm
  refine q_sk ?_
  refine q_sq ?_
  obtain ⟨v5, h6, hm⟩ := bind_s hm
  refine q_vu [qc 1 [15] 1 (cutting_choices_ok a1 v5 h6)] 1 [5, 13] [(6, vo 1 0 3 v5.length)] [] [(1, ro 0 164 3 v5.length (rf e_Cutting_choice v5))] ?_
  refine q_sq ?_
  refine q_vu [] 2 [] [(7, vc (.emp))] [] [] ?_
  refine q_sq ?_
  refine q_sq ?_
  refine q_vu [] 2 [] [(8, vi 0)] [] [] ?_
  refine q_fn [.own 7 2 98 2 (rf e_Piece ([] : List Piece))] ⟨[(1, vp 0 0), (6, vo 1 0 3 v5.length), (7, vo 2 0 2 0), (8, vi 0)], [(0, bx 64 (e_Line a1)), (1, ro 0 164 3 v5.length (rf e_Cutting_choice v5)), (2, ro 0 98 2 0 (rf e_Piece ([] : List Piece)))]⟩ o0 ?_
  obtain ⟨o17, h18, hm⟩ := bind_s hm
  refine R_loop0 (nd Tryd.f55 500) 0 (by kernel_rfl) FUEL (fun o => cutting_Best_L1_T v5 o) o17 (q_hl (cutting_Best_L1_S a1 v5 ([] : List Piece) 0 0) (cutting_Best_L1_ok E a1 v5 FUEL ([] : List Piece) 0 0 o17 rfl h18)) ?_
  refine q_sq ?_
  obtain ⟨g19, hm⟩ := bif_n hm
  refine q_du [qd 2 (Dir.none) (inb_of g19), qd 4 (Dir.none) (toNat_lt (inb_of g19))] [0, 0, 2, 6, 14, 1, 63, 127] 3 [6, 7] [(2, vo 2 0 2 o17.length), (3, vi ((v5.getD ((0 : Int).toNat) default).value)), (4, vi 0)] [1] [] ?_
  obtain rfl := Option.some.inj hm
  refine H_swap 2 0 (by kernel_rfl) ?_
  refine q_rt ?_
  exact q_rm

end Saw
end Go.SL

namespace Go.SL
namespace Saw
open Go.Proofs
set_option maxHeartbeats 4000000

def pattern_Row_1_s1_x (a1 : List Node) (a2 : Int) (a3 : List Node) (r : Int × (List Node)) : V := .undef

def pattern_Row_1_s1_o (a1 : List Node) (a2 : Int) (a3 : List Node) (r : Int × (List Node)) : List (Nat × (Nat × O)) := [(0, bx 3 [ci r.1]), (1, bx 45 [.own 2 0 2 r.2.length]), (2, ro 0 80 2 r.2.length (rf e_Node r.2))]

theorem pattern_Row_1_s1_f (a1 : List Node) (a2 : Int) (a3 : List Node) (r : Int × (List Node)) : Frozen (pattern_Row_1_s1_o a1 a2 a3 r) := by
 intro i k o h
 unfold pattern_Row_1_s1_o at h
 rw [look_cons] at h
 split at h
 ·cases h; rfl
 ·rw [look_cons] at h
  split at h
  ·cases h; rfl
  ·rw [look_cons] at h
   split at h
   ·cases h; exact fun _ _ => rfl
   ·cases h

set_option maxRecDepth 100000 in
theorem pattern_Row_1_s1_ok (a1 : List Node) (a2 : Int) (a3 : List Node) (r : Int × (List Node)) (hm : pattern_Row_1_s1 a1 a2 a3 = some r) : CtX Tryd.prog globs 89 3 2 [.one (tl e_Node default a1), .one (.bptr 0 0 0), .one (.bptr 1 0 0)] [(0, bx 3 [ci a2]), (1, bx 45 [.own 2 0 2 a3.length]), (2, ro 0 80 2 a3.length (rf e_Node a3))] (pattern_Row_1_s1_x a1 a2 a3 r) (pattern_Row_1_s1_o a1 a2 a3 r) := by
 unfold pattern_Row_1_s1 at hm
 refine q_E Tryd.f89 13 fun E => ?_
 refine q_sq ?_
 refine q_vn [] 3 ⟨[(0, vc (tl e_Node default a1)), (1, vp 0 0), (2, vp 1 0)], [(0, bx 3 [ci (w64 (a2 + ((a1.length : Nat) : Int)))]), (1, bx 45 [.own 2 0 2 a3.length]), (2, ro 0 80 2 a3.length (rf e_Node a3))]⟩ ?_
 refine q_sq ?_
 refine q_vu [] 3 [1] [(9, vb (decide ((w64 (a2 + ((a1.length : Nat) : Int))) ≤ 127)))] [] [] ?_
 refine q_cn (decide ((w64 (a2 + ((a1.length : Nat) : Int))) ≤ 127)) (fun b4 => ?_) (fun b4 => ?_)
 ·replace hm := bif_t b4 hm
  obtain ⟨g5, hm⟩ := bif_n hm
  refine q_wu [qd 2 (drw 2 1 (rf e_Node (a3 ++ a1))) (apP e_Node default a3 a1 a3.length a1.length 2 16 (True) trivial rfl rfl (fun _ => rfl) (room_of g5))] [.len 2 ((a3 ++ a1).length)] (o1 (And.intro (Eq.symm (show (a3 ++ a1).length = (a3.length + a1.length) from (len_app rfl rfl))) (And.intro (Eq.symm (show (a3 ++ a1).length = (a3.length + a1.length) from (len_app rfl rfl))) (Eq.symm (show (a3 ++ a1).length = (a3.length + a1.length) from (len_app rfl rfl)))))) 3 [0, 2, 9] [] [1, 2] [(1, bx 45 [.own 2 1 2 ((a3 ++ a1).length)]), (2, ro 1 80 2 ((a3 ++ a1).length) (rf e_Node (a3 ++ a1)))] ?_
  obtain rfl := Option.some.inj hm
  exact q_rm
 ·replace hm := bif_f b4 hm
  refine q_sk ?_
  obtain rfl := Option.some.inj hm
  exact q_rm

end Saw
end Go.SL

namespace Go.SL
namespace Saw
open Go.Proofs
set_option maxHeartbeats 4000000

def pattern_isRip_x (r : Bool) : V := vb r

def pattern_isRip_o (r : Bool) : List (Nat × (Nat × O)) := []

theorem pattern_isRip_f (r : Bool) : Frozen (pattern_isRip_o r) := by
 intro i k o h
 unfold pattern_isRip_o at h
 cases h

def pattern_isRip_k1_S (x3 : Bool) : St :=
 ⟨[(2, vb x3)], []⟩

set_option maxRecDepth 100000 in
theorem pattern_isRip_ok (a1 : Int) (r : Bool) (hm : pattern_isRip a1 = some r) : CtX Tryd.prog globs 80 0 0 [.one (ci a1)] [] (pattern_isRip_x r) (pattern_isRip_o r) := by
 unfold pattern_isRip at hm
 refine q_E Tryd.f80 9 fun E => ?_
 refine q_sq ?_
 refine q_vn [] 0 ⟨[(0, vi a1)], []⟩ ?_
 refine q_jn (ι := Bool) (fun p => pattern_isRip_k1_S p) (fun p => pattern_isRip_k1 p = some r) ?_ ?_
 ·rintro x3 hm
  show H _ (pattern_isRip_k1_S x3) _ _
  obtain rfl := Option.some.inj hm
  refine q_rt ?_
  exact q_rm
 ·rcases Bool.eq_false_or_eq_true (a1 == 2) with b2 | b2
  ·replace hm := bif_t b2 hm
   refine q_vn [qf 2 b2] 0 ⟨[(2, vb true)], []⟩ ?_
   exact q_J (true) hm
  ·replace hm := bif_f b2 hm
   refine q_vn [qf 2 b2] 0 ⟨[(2, vb (a1 == 3))], []⟩ ?_
   exact q_J (a1 == 3) hm

end Saw
end Go.SL

namespace Go.SL
namespace Saw
open Go.Proofs
set_option maxHeartbeats 4000000

def pattern_along_x (r : Span) : V := va (e_Span r)

def pattern_along_o (r : Span) : List (Nat × (Nat × O)) := []

theorem pattern_along_f (r : Span) : Frozen (pattern_along_o r) := by
 intro i k o h
 unfold pattern_along_o at h
 cases h

set_option maxRecDepth 100000 in
theorem pattern_along_ok (a1 : Rect) (a2 : Int) (r : Span) (hm : pattern_along a1 a2 = some r) : CtX Tryd.prog globs 90 0 0 [.agg (e_Rect a1), .one (ci a2)] [] (pattern_along_x r) (pattern_along_o r) := by
 unfold pattern_along at hm
 refine q_E Tryd.f90 11 fun E => ?_
 refine q_sq ?_
 refine q_vn [] 0 ⟨[(1, vi a2), (2, vp 0 0), (4, vp 1 0)], [(0, bx 35 (e_Rect a1)), (1, bx 33 [ci 0, ci 0])]⟩ ?_
 refine q_sq ?_
 refine q_sq ?_
 refine q_vu [] 2 [1] [(6, vb (a2 == 2))] [] [] ?_
 refine q_cn (a2 == 2) (fun b3 => ?_) (fun b3 => ?_)
 ·replace hm := bif_t b3 hm
  refine q_sq ?_
  refine q_vn [] 2 ⟨[(4, vp 1 0)], [(1, bx 33 (e_Span a1.X))]⟩ ?_
  obtain rfl := Option.some.inj hm
  refine q_rt ?_
  exact q_rm
 ·replace hm := bif_f b3 hm
  refine q_sk ?_
  refine q_sq ?_
  refine q_vn [] 2 ⟨[(4, vp 1 0)], [(1, bx 33 (e_Span a1.Y))]⟩ ?_
  obtain rfl := Option.some.inj hm
  refine q_rt ?_
  exact q_rm

end Saw
end Go.SL

namespace Go.SL
namespace Saw
open Go.Proofs
set_option maxHeartbeats 4000000

def pattern_isFrame_x (r : Bool) : V := vb r

def pattern_isFrame_o (r : Bool) : List (Nat × (Nat × O)) := []

theorem pattern_isFrame_f (r : Bool) : Frozen (pattern_isFrame_o r) := by
 intro i k o h
 unfold pattern_isFrame_o at h
 cases h

def pattern_isFrame_k2_S (a1 : Rect) (x2 : Int) (x7 : Bool) : St :=
 ⟨[(9, va (e_Rect a1)), (10, vi x2), (27, vb x7)], []⟩

def pattern_isFrame_L1_S (a1 : Rect) (x2 : Int) : St :=
 ⟨[(9, va (e_Rect a1)), (10, vi x2)], []⟩

def pattern_isFrame_L1_T : St :=
 ⟨[], []⟩

set_option maxRecDepth 100000 in
theorem pattern_isFrame_L1_ok (E : Env 0) (a1 : Rect) : ∀ (n : Nat) (x2 : Int) (res : Bool ⊕ Unit), pattern_isFrame_L1 a1 n x2 = some res → HL (kx E 29 0) (nd Tryd.f88 52) (loopQ 0 (fun o => pattern_isFrame_L1_T) (fun v st => RetQ Tryd.prog Tryd.f88 (pattern_isFrame_x v) (pattern_isFrame_o v) .ret st) res) n (pattern_isFrame_L1_S a1 x2) := by
 intro n
 induction n with
 | zero =>
  intro x2 res hm
  cases hm
 | succ n ih =>
  intro x2 res hm
  refine HL_succ ?_
  refine q_sq ?_
  refine q_vu [] 1 [] [(11, vb (decide (x2 < 2)))] [] [] ?_
  refine q_sq ?_
  refine q_cn (decide (x2 < 2)) (fun b3 => ?_) (fun b3 => ?_)
  ·replace hm := bif_t b3 hm
   refine q_sk ?_
   refine q_sq ?_
   refine q_bk 1 ?_
   refine q_sq ?_
   obtain ⟨g4, hm⟩ := bif_n hm
   refine q_vu [qd 0 (Dir.none) (inb_of g4)] 1 [11] [(4, vp 1 0)] [] [(1, bx 33 [ci (([a1.X.A, a1.X.B, a1.Y.A, a1.Y.B] : List Int).getD (x2.toNat * 2 + 0) 0), ci (([a1.X.A, a1.X.B, a1.Y.A, a1.Y.B] : List Int).getD (x2.toNat * 2 + 1) 0)])] ?_
   refine q_jn (ι := Bool) (fun p => pattern_isFrame_k2_S a1 x2 p) (fun p => pattern_isFrame_k2 x2 (pattern_isFrame_L1 a1 n) p = some res) ?_ ?_
   ·rintro x7 hm
    show H _ (pattern_isFrame_k2_S a1 x2 x7) _ _
    refine q_cn x7 (fun b8 => ?_) (fun b8 => ?_)
    ·replace hm := bif_t b8 hm
     refine q_sq ?_
     refine q_vn [] 2 ⟨[(2, vb false)], []⟩ ?_
     obtain rfl := Option.some.inj hm
     refine q_rt ?_
     refine L1_ret false ?_
     exact q_rm
    ·replace hm := bif_f b8 hm
     refine q_sk ?_
     refine q_vu [] 2 [10, 27] [(10, vi (w64 (x2 + 1)))] [] [] ?_
     exact q_hl (pattern_isFrame_L1_S a1 (w64 (x2 + 1))) (ih (w64 (x2 + 1)) _ hm)
   ·rcases Bool.eq_false_or_eq_true (decide ((([a1.X.A, a1.X.B, a1.Y.A, a1.Y.B] : List Int).getD (x2.toNat * 2 + 0) 0) < (-600))) with b5 | b5
    ·replace hm := bif_t b5 hm
     refine q_vu [qf 3 b5] 2 [4] [(27, vb true)] [1] [] ?_
     exact q_J (true) hm
    ·replace hm := bif_f b5 hm
     rcases Bool.eq_false_or_eq_true (decide ((([a1.X.A, a1.X.B, a1.Y.A, a1.Y.B] : List Int).getD (x2.toNat * 2 + 1) 0) > 600)) with b6 | b6
     ·replace hm := bif_t b6 hm
      refine q_vu [qf 3 b5, qf 8 b6] 2 [4] [(17, vp 1 1), (18, vi (([a1.X.A, a1.X.B, a1.Y.A, a1.Y.B] : List Int).getD (x2.toNat * 2 + 1) 0)), (19, vb (decide ((([a1.X.A, a1.X.B, a1.Y.A, a1.Y.B] : List Int).getD (x2.toNat * 2 + 1) 0) > 600))), (27, vb true)] [] [] ?_
      exact q_J (true) hm
     ·replace hm := bif_f b6 hm
      refine q_vu [qf 3 b5, qf 8 b6] 2 [4] [(17, vp 1 1), (18, vi (([a1.X.A, a1.X.B, a1.Y.A, a1.Y.B] : List Int).getD (x2.toNat * 2 + 1) 0)), (19, vb (decide ((([a1.X.A, a1.X.B, a1.Y.A, a1.Y.B] : List Int).getD (x2.toNat * 2 + 1) 0) > 600))), (22, vp 1 0), (23, vi (([a1.X.A, a1.X.B, a1.Y.A, a1.Y.B] : List Int).getD (x2.toNat * 2 + 0) 0)), (24, vp 1 1), (25, vi (([a1.X.A, a1.X.B, a1.Y.A, a1.Y.B] : List Int).getD (x2.toNat * 2 + 1) 0)), (26, vb (decide ((([a1.X.A, a1.X.B, a1.Y.A, a1.Y.B] : List Int).getD (x2.toNat * 2 + 0) 0) ≥ (([a1.X.A, a1.X.B, a1.Y.A, a1.Y.B] : List Int).getD (x2.toNat * 2 + 1) 0)))), (27, vb (decide ((([a1.X.A, a1.X.B, a1.Y.A, a1.Y.B] : List Int).getD (x2.toNat * 2 + 0) 0) ≥ (([a1.X.A, a1.X.B, a1.Y.A, a1.Y.B] : List Int).getD (x2.toNat * 2 + 1) 0))))] [] [] ?_
      exact q_J (decide ((([a1.X.A, a1.X.B, a1.Y.A, a1.Y.B] : List Int).getD (x2.toNat * 2 + 0) 0) ≥ (([a1.X.A, a1.X.B, a1.Y.A, a1.Y.B] : List Int).getD (x2.toNat * 2 + 1) 0))) hm
  ·replace hm := bif_f b3 hm
   refine q_ex 0 ?_
   obtain rfl := Option.some.inj hm
   exact L1_mk () (by kernel_rfl) (by kernel_rfl)

set_option maxRecDepth 100000 in
theorem pattern_isFrame_ok (a1 : Rect) (r : Bool) (hm : pattern_isFrame a1 = some r) : CtX Tryd.prog globs 88 0 0 [.agg (e_Rect a1)] [] (pattern_isFrame_x r) (pattern_isFrame_o r) := by
 unfold pattern_isFrame at hm
 refine q_E Tryd.f88 29 fun E => ?_
 refine q_sq ?_
 refine q_vn [] 0 ⟨[(1, vp 0 0)], [(0, bx 35 (e_Rect a1))]⟩ ?_
 refine q_sq ?_
 refine q_sq ?_
 refine q_vn [] 1 ⟨[(9, va (e_Rect a1)), (10, vi 0)], []⟩ ?_
 obtain ⟨u11, h10, hm⟩ := bind_s hm
 refine R_loop1 (nd Tryd.f88 52) 0 (by kernel_rfl) FUEL (fun o => pattern_isFrame_L1_T) (fun v st => RetQ Tryd.prog Tryd.f88 (pattern_isFrame_x v) (pattern_isFrame_o v) .ret st) u11 (q_hl (pattern_isFrame_L1_S a1 0) (pattern_isFrame_L1_ok E a1 FUEL 0 u11 h10)) ?_ ?_
 ·rintro v12 rfl st hr
  obtain rfl := Option.some.inj hm
  exact hr
 ·rintro o9 rfl
  replace hm : _ = some r := hm
  refine q_sq ?_
  refine q_vn [] 1 ⟨[(2, vb true)], []⟩ ?_
  obtain rfl := Option.some.inj hm
  refine q_rt ?_
  exact q_rm

end Saw
end Go.SL
