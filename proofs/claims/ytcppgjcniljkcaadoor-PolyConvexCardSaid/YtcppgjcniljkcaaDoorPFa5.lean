import Derived.Test.YtcppgjcniljkcaaDoorPBase
import Derived.Test.YtcppgjcniljkcaaDoorPFa4
set_option linter.unusedVariables false
set_option linter.unusedSimpArgs false
namespace Go.SL
namespace Saw
open Go.Proofs
set_option maxHeartbeats 4000000

def ref09_Before_x (r : Bool) : V := vb r

def ref09_Before_o (r : Bool) : List (Nat × (Nat × O)) := []

theorem ref09_Before_f (r : Bool) : Frozen (ref09_Before_o r) := by
  intro i k o h
  unfold ref09_Before_o at h
  cases h

def ref09_Before_k1_S (x5 : Bool) : St :=
  ⟨[(4, vb x5)], []⟩

set_option maxRecDepth 100000 in
theorem ref09_Before_ok (a1 : Point) (a2 : Point) (r : Bool) (hm : ref09_Before a1 a2 = some r) : CtX Tryd.prog globs 34 0 0 [.agg [ci a1.X, ci a1.Y], .agg [ci a2.X, ci a2.Y]] [] (ref09_Before_x r) (ref09_Before_o r) := by
  unfold ref09_Before at hm
  refine CtX_of_E (fn := Tryd.f34) (c := nd Tryd.f34 1) (nt := 24) (by kernel_rfl) (by kernel_rfl) (by kernel_rfl) (by kernel_rfl) fun E => ?_
  refine R_sq Tryd.f34 2 3 (by kernel_rfl) ?_
  refine R_rn Tryd.f34 2 0 [] [] 0 ⟨[(2, vp 0 0), (3, vp 1 0)], [(0, bx 38 [ci a1.X, ci a1.Y]), (1, bx 38 [ci a2.X, ci a2.Y])]⟩ o0 (by kernel_rfl) (by kernel_rfl) ?_
  refine R_join (ι := Bool) (nd Tryd.f34 6) (nd Tryd.f34 7) (by kernel_rfl) (fun p => ref09_Before_k1_S p) (fun p => ref09_Before_k1 p = some r) ?_ ?_
  · rintro x5 hm
    show H _ (ref09_Before_k1_S x5) (nd Tryd.f34 7) _
    obtain rfl := Option.some.inj hm
    refine R_ret (by kernel_rfl) ?_
    exact ret_mk (by kernel_rfl) (by kernel_rfl)
  · rcases Bool.eq_false_or_eq_true (decide (a1.X < a2.X)) with b3 | b3
    · replace hm := bif_t b3 hm
      refine R_rn Tryd.f34 6 1 [(5, dfx true)] [] 2 ⟨[(4, vb true)], []⟩ (o1 b3) (by kernel_rfl) (by kernel_rfl) ?_
      exact J_mk (true) hm (by kernel_rfl) (by kernel_rfl)
    · replace hm := bif_f b3 hm
      rcases Bool.eq_false_or_eq_true (a1.X == a2.X) with b4 | b4
      · replace hm := bif_t b4 hm
        refine R_rn Tryd.f34 6 1 [(5, dfx false), (11, dfx true)] [] 2 ⟨[(4, vb (decide (a1.Y < a2.Y)))], []⟩ (o1 (And.intro b3 b4)) (by kernel_rfl) (by kernel_rfl) ?_
        exact J_mk (decide (a1.Y < a2.Y)) hm (by kernel_rfl) (by kernel_rfl)
      · replace hm := bif_f b4 hm
        refine R_rn Tryd.f34 6 1 [(5, dfx false), (11, dfx false)] [] 2 ⟨[(4, vb false)], []⟩ (o1 (And.intro b3 b4)) (by kernel_rfl) (by kernel_rfl) ?_
        exact J_mk (false) hm (by kernel_rfl) (by kernel_rfl)

end Saw
end Go.SL

namespace Go.SL
namespace Saw
open Go.Proofs
set_option maxHeartbeats 4000000

def ref09_sorted_x (r : (List Point)) : V := vo 0 0 2 r.length

def ref09_sorted_o (r : (List Point)) : List (Nat × (Nat × O)) := [(0, ro 0 38 2 r.length (rf e_Point r))]

theorem ref09_sorted_f (r : (List Point)) : Frozen (ref09_sorted_o r) := by
  intro i k o h
  unfold ref09_sorted_o at h
  rw [look_cons] at h
  split at h
  · cases h; exact fun _ _ => rfl
  · cases h

def ref09_sorted_k3_S (a1 : List Point) (l2 : List Point) (x3 : Int) (x5 : Int) (x11 : Bool) : St :=
  ⟨[(0, vc (tl e_Point default a1)), (3, vo 0 0 2 l2.length), (4, vi x3), (5, vi x5), (27, vb x11)], [(0, ro 0 38 2 l2.length (rf e_Point l2))]⟩

def ref09_sorted_L2_S (a1 : List Point) (l2 : List Point) (x3 : Int) (x5 : Int) : St :=
  ⟨[(0, vc (tl e_Point default a1)), (3, vo 0 0 2 l2.length), (4, vi x3), (5, vi x5)], [(0, ro 0 38 2 l2.length (rf e_Point l2))]⟩

def ref09_sorted_L2_T (a1 : List Point) (l2 : List Point) (x3 : Int) (x13 : Int) : St :=
  ⟨[(0, vc (tl e_Point default a1)), (3, vo 0 0 2 l2.length), (4, vi x3), (5, vi x13)], [(0, ro 0 38 2 l2.length (rf e_Point l2))]⟩

def ref09_sorted_k5_S (a1 : List Point) (x3 : Int) (l27 : List Point) (l27n : Nat) : St :=
  ⟨[(0, vc (tl e_Point default a1)), (3, vo 0 0 2 l27n), (4, vi x3)], [(0, ro 0 38 2 l27n (rf e_Point l27))]⟩

def ref09_sorted_k4_S (a1 : List Point) (l2 : List Point) (x3 : Int) (o14 : Int) (x19 : Bool) : St :=
  ⟨[(0, vc (tl e_Point default a1)), (3, vo 0 0 2 l2.length), (4, vi x3), (5, vi o14), (44, vb x19)], [(0, ro 0 38 2 l2.length (rf e_Point l2))]⟩

def ref09_sorted_L1_S (a1 : List Point) (l2 : List Point) (l2n : Nat) (x3 : Int) : St :=
  ⟨[(0, vc (tl e_Point default a1)), (3, vo 0 0 2 l2n), (4, vi x3)], [(0, ro 0 38 2 l2n (rf e_Point l2))]⟩

def ref09_sorted_L1_T (l28 : List Point) : St :=
  ⟨[(3, vo 0 0 2 l28.length)], [(0, ro 0 38 2 l28.length (rf e_Point l28))]⟩

set_option maxRecDepth 100000 in
theorem ref09_sorted_L2_ok (E : Env 0) (a1 : List Point) (l2 : List Point) (x3 : Int) : ∀ (n : Nat) (x5 : Int) (res : Int), ref09_sorted_L2 a1 l2 x3 n x5 = some res → HL (kx E 63 0) (nd Tryd.f52 14920) (loopQ0 2 (fun o => ref09_sorted_L2_T a1 l2 x3 o) res) n (ref09_sorted_L2_S a1 l2 x3 x5) := by
  intro n
  induction n with
  | zero =>
    intro x5 res hm
    cases hm
  | succ n ih =>
    intro x5 res hm
    refine HL_succ ?_
    refine R_sq Tryd.f52 29840 29841 (by kernel_rfl) ?_
    refine R_join (ι := Bool) (nd Tryd.f52 59680) (nd Tryd.f52 59681) (by kernel_rfl) (fun p => ref09_sorted_k3_S a1 l2 x3 x5 p) (fun p => ref09_sorted_k3 x5 (ref09_sorted_L2 a1 l2 x3 n) p = some res) ?_ ?_
    · rintro x11 hm
      show H _ (ref09_sorted_k3_S a1 l2 x3 x5 x11) (nd Tryd.f52 59681) _
      refine R_cn Tryd.f52 (.tmp 27) 119362 119363 (by kernel_rfl) x11 (by kernel_rfl) (fun b12 => ?_) (fun b12 => ?_)
      · replace hm := bif_t b12 hm
        refine R_skip (by kernel_rfl) ?_
        refine R_bk Tryd.f52 3 59682 (by kernel_rfl) ?_
        refine R_rn Tryd.f52 59682 7 [] [] 1 ⟨[(0, vc (tl e_Point default a1)), (3, vo 0 0 2 l2.length), (4, vi x3), (5, vi (w64 (x5 + 1)))], [(0, ro 0 38 2 l2.length (rf e_Point l2))]⟩ o0 (by kernel_rfl) (by kernel_rfl) ?_
        exact HL_enter (ref09_sorted_L2_S a1 l2 x3 (w64 (x5 + 1))) (by kernel_rfl) (by kernel_rfl) (ih (w64 (x5 + 1)) _ hm)
      · replace hm := bif_f b12 hm
        refine R_exit 2 (by kernel_rfl) ?_
        obtain rfl := Option.some.inj hm
        exact L0_mk (by kernel_rfl) (by kernel_rfl)
    · rcases Bool.eq_false_or_eq_true (decide (x5 < ((l2.length : Nat) : Int))) with b6 | b6
      · replace hm := bif_t b6 hm
        obtain ⟨g7, hm⟩ := bif_n hm
        obtain ⟨g8, hm⟩ := bif_n hm
        obtain ⟨v9, h10, hm⟩ := bind_s hm
        refine R_dr Tryd.f52 59680 6 [] [(4, dfx true), (13, dex (cen [] [] 1 0 (ref09_Before_x v9) (ref09_Before_o v9) [17, 21, 25] []))] [] [0, 0, 2, 7, 15, 31, 31, 127, 255, 31, 31, 1567, 3615, 8191, 16383] 1 ⟨[(0, vc (tl e_Point default a1)), (3, vo 0 0 2 l2.length), (4, vi x3), (5, vi x5), (18, vo 0 0 2 l2.length), (19, vi x5), (20, vc (.rptr 0 0 2 x5.toNat 0)), (21, va [ci ((l2.getD x5.toNat default).X), ci ((l2.getD x5.toNat default).Y)]), (22, vc (tl e_Point default a1)), (23, vi x3), (24, vc (.lptr (e_Point (a1.getD x3.toNat default)))), (25, va [ci ((a1.getD x3.toNat default).X), ci ((a1.getD x3.toNat default).Y)]), (26, vb v9), (27, vb v9)], [(0, ro 0 38 2 l2.length (rf e_Point l2))]⟩ (o1 (And.intro b6 (And.intro (inb_of g7) (And.intro (toNat_lt (inb_of g7)) (And.intro (inb_of g8) (callS (K := (kx E 63 0)) ⟨[(17, vb true), (21, va [ci ((l2.getD x5.toNat default).X), ci ((l2.getD x5.toNat default).Y)]), (25, va [ci ((a1.getD x3.toNat default).X), ci ((a1.getD x3.toNat default).Y)])], []⟩ (opAt (rg Tryd.f52 59680) 13) [] [] 1 o0 rfl (ref09_Before_ok (l2.getD x5.toNat default) (a1.getD x3.toNat default) v9 h10) (.inl rfl) (by kernel_rfl))))))) (by kernel_rfl) (by kernel_rfl) ?_
        exact J_mk (v9) hm (by kernel_rfl) (by kernel_rfl)
      · replace hm := bif_f b6 hm
        refine R_dr Tryd.f52 59680 6 [] [(4, dfx false)] [] [0, 0, 2, 7, 15, 31, 31, 127, 255, 31, 31, 1567, 3615, 8191, 16383] 1 ⟨[(0, vc (tl e_Point default a1)), (3, vo 0 0 2 l2.length), (4, vi x3), (5, vi x5), (27, vb false)], [(0, ro 0 38 2 l2.length (rf e_Point l2))]⟩ (o1 b6) (by kernel_rfl) (by kernel_rfl) ?_
        exact J_mk (false) hm (by kernel_rfl) (by kernel_rfl)

set_option maxRecDepth 100000 in
theorem ref09_sorted_L1_ok (E : Env 0) (a1 : List Point) : ∀ (n : Nat) (l2 : List Point) (l2n : Nat) (x3 : Int) (res : (List Point)), l2.length = l2n → ref09_sorted_L1 a1 n l2 x3 = some res → HL (kx E 63 0) (nd Tryd.f52 116) (loopQ0 0 (fun o => ref09_sorted_L1_T o) res) n (ref09_sorted_L1_S a1 l2 l2n x3) := by
  intro n
  induction n with
  | zero =>
    intro l2 l2n x3 res hl0 hm
    cases hm
  | succ n ih =>
    intro l2 l2n x3 res hl0 hm
    subst hl0
    refine HL_succ ?_
    refine R_sq Tryd.f52 232 233 (by kernel_rfl) ?_
    refine R_sq Tryd.f52 464 465 (by kernel_rfl) ?_
    refine R_rn Tryd.f52 464 3 [] [] 1 ⟨[(0, vc (tl e_Point default a1)), (3, vo 0 0 2 l2.length), (4, vi x3), (10, vb (decide (x3 < ((a1.length : Nat) : Int))))], [(0, ro 0 38 2 l2.length (rf e_Point l2))]⟩ o0 (by kernel_rfl) (by kernel_rfl) ?_
    refine R_cn Tryd.f52 (.tmp 10) 930 931 (by kernel_rfl) (decide (x3 < ((a1.length : Nat) : Int))) (by kernel_rfl) (fun b4 => ?_) (fun b4 => ?_)
    · replace hm := bif_t b4 hm
      refine R_skip (by kernel_rfl) ?_
      refine R_join (ι := (List Point) × Nat) (nd Tryd.f52 466) (nd Tryd.f52 467) (by kernel_rfl) (fun p => ref09_sorted_k5_S a1 x3 p.1 p.2) (fun p => p.1.length = p.2 ∧ ref09_sorted_k5 x3 (ref09_sorted_L1 a1 n) p.1 = some res) ?_ ?_
      · rintro ⟨l27, l27n⟩ ⟨el27, hm⟩
        replace el27 : l27.length = l27n := el27
        subst el27
        show H _ (ref09_sorted_k5_S a1 x3 l27 l27.length) (nd Tryd.f52 467) _
        refine R_rn Tryd.f52 467 4 [] [] 3 ⟨[(0, vc (tl e_Point default a1)), (3, vo 0 0 2 l27.length), (4, vi (w64 (x3 + 1)))], [(0, ro 0 38 2 l27.length (rf e_Point l27))]⟩ o0 (by kernel_rfl) (by kernel_rfl) ?_
        exact HL_enter (ref09_sorted_L1_S a1 l27 l27.length (w64 (x3 + 1))) (by kernel_rfl) (by kernel_rfl) (ih l27 l27.length (w64 (x3 + 1)) _ rfl hm)
      · refine R_bk Tryd.f52 1 932 (by kernel_rfl) ?_
        refine R_sq Tryd.f52 1864 1865 (by kernel_rfl) ?_
        refine R_rn Tryd.f52 1864 5 [] [] 1 ⟨[(0, vc (tl e_Point default a1)), (3, vo 0 0 2 l2.length), (4, vi x3), (5, vi 0)], [(0, ro 0 38 2 l2.length (rf e_Point l2))]⟩ o0 (by kernel_rfl) (by kernel_rfl) ?_
        refine R_sq Tryd.f52 3730 3731 (by kernel_rfl) ?_
        obtain ⟨o14, h15, hm⟩ := bind_s hm
        refine R_loop0 (nd Tryd.f52 14920) 2 (by kernel_rfl) FUEL (fun o => ref09_sorted_L2_T a1 l2 x3 o) o14 (HL_enter (ref09_sorted_L2_S a1 l2 x3 0) (by kernel_rfl) (by kernel_rfl) (ref09_sorted_L2_ok E a1 l2 x3 FUEL 0 o14 h15)) ?_
        refine R_sq Tryd.f52 7462 7463 (by kernel_rfl) ?_
        refine R_join (ι := Bool) (nd Tryd.f52 14924) (nd Tryd.f52 14925) (by kernel_rfl) (fun p => ref09_sorted_k4_S a1 l2 x3 o14 p) (fun p => ref09_sorted_k4 a1 l2 x3 (ref09_sorted_L1 a1 n) o14 p = some res) ?_ ?_
        · rintro x19 hm
          show H _ (ref09_sorted_k4_S a1 l2 x3 o14 x19) (nd Tryd.f52 14925) _
          refine R_cn Tryd.f52 (.tmp 44) 29850 29851 (by kernel_rfl) x19 (by kernel_rfl) (fun b20 => ?_) (fun b20 => ?_)
          · replace hm := bif_t b20 hm
            refine R_exit 1 (by kernel_rfl) ?_
            exact J_mk (l2, l2.length) ⟨rfl, hm⟩ (by kernel_rfl) (by kernel_rfl)
          · replace hm := bif_f b20 hm
            refine R_skip (by kernel_rfl) ?_
            refine R_sq Tryd.f52 14926 14927 (by kernel_rfl) ?_
            obtain ⟨g21, hm⟩ := bif_n hm
            obtain ⟨g22, hm⟩ := bif_n hm
            refine R_rn Tryd.f52 14926 9 [(0, drw 1 0 (rf e_Point ([] : List Point))), (4, drw 1 1 (rf e_Point (([] : List Point) ++ (l2.take o14.toNat))))] [] 1 ⟨[(0, vc (tl e_Point default a1)), (3, vo 0 0 2 l2.length), (4, vi x3), (5, vi o14), (6, vo 1 1 2 (0 + o14.toNat))], [(0, ro 0 38 2 l2.length (rf e_Point l2)), (1, ro 1 38 2 (0 + o14.toNat) (rf e_Point (([] : List Point) ++ (l2.take o14.toNat))))]⟩ (o1 (And.intro (litP e_Point default 2 (fun _ => rfl) ([] : List Point) 0 rfl) (And.intro (And.intro (slOk_of g21).2.1 (slOk_of g21).2.2) (apPt e_Point default ([] : List Point) l2 0 o14.toNat l2.length 2 16 (show o14.toNat ≤ l2.length by have := (slOk_of g21); omega) rfl rfl (fun _ => rfl) (room_of g22))))) (by kernel_rfl) (by kernel_rfl) ?_
            refine R_sq Tryd.f52 29854 29855 (by kernel_rfl) ?_
            obtain ⟨g23, hm⟩ := bif_n hm
            obtain ⟨g24, hm⟩ := bif_n hm
            refine R_rn Tryd.f52 29854 10 [(5, drw 2 0 (rf e_Point ([(a1.getD x3.toNat default)] : List Point))), (6, drw 1 2 (rf e_Point ((([] : List Point) ++ (l2.take o14.toNat)) ++ ([(a1.getD x3.toNat default)] : List Point))))] [] 2 ⟨[(0, vc (tl e_Point default a1)), (3, vo 0 0 2 l2.length), (4, vi x3), (5, vi o14), (6, vo 1 2 2 ((0 + o14.toNat) + 1))], [(0, ro 0 38 2 l2.length (rf e_Point l2)), (1, ro 2 38 2 ((0 + o14.toNat) + 1) (rf e_Point ((([] : List Point) ++ (l2.take o14.toNat)) ++ ([(a1.getD x3.toNat default)] : List Point))))]⟩ (o1 (And.intro (inb_of g23) (And.intro (litP e_Point default 2 (fun _ => rfl) ([(a1.getD x3.toNat default)] : List Point) 1 rfl) (apP e_Point default (([] : List Point) ++ (l2.take o14.toNat)) ([(a1.getD x3.toNat default)] : List Point) (0 + o14.toNat) 1 2 16 (1 ≤ 1) (Nat.le_refl _) (len_app rfl (len_take rfl (show o14.toNat ≤ l2.length by have := (slOk_of g21); omega))) rfl (fun _ => rfl) (room_of g24))))) (by kernel_rfl) (by kernel_rfl) ?_
            obtain ⟨g25, hm⟩ := bif_n hm
            obtain ⟨g26, hm⟩ := bif_n hm
            refine R_rn Tryd.f52 29855 11 [(4, drw 1 3 (rf e_Point (((([] : List Point) ++ (l2.take o14.toNat)) ++ ([(a1.getD x3.toNat default)] : List Point)) ++ ((l2.drop o14.toNat).take (l2.length - o14.toNat)))))] [.swp 1 0] 3 ⟨[(0, vc (tl e_Point default a1)), (3, vo 0 3 2 (((0 + o14.toNat) + 1) + (l2.length - o14.toNat))), (4, vi x3)], [(0, ro 3 38 2 (((0 + o14.toNat) + 1) + (l2.length - o14.toNat)) (rf e_Point (((([] : List Point) ++ (l2.take o14.toNat)) ++ ([(a1.getD x3.toNat default)] : List Point)) ++ ((l2.drop o14.toNat).take (l2.length - o14.toNat)))))]⟩ (o1 (And.intro (And.intro (slOk_of g25).1 (slOk_of g25).2.1) (apPd e_Point default ((([] : List Point) ++ (l2.take o14.toNat)) ++ ([(a1.getD x3.toNat default)] : List Point)) l2 ((0 + o14.toNat) + 1) o14.toNat (l2.length - o14.toNat) l2.length 2 16 (show o14.toNat + (l2.length - o14.toNat) ≤ l2.length by have := (slOk_of g25); omega) (len_app (len_app rfl (len_take rfl (show o14.toNat ≤ l2.length by have := (slOk_of g21); omega))) rfl) rfl (fun _ => rfl) (room_of g26)))) (by kernel_rfl) (by kernel_rfl) ?_
            exact J_mk ((((([] : List Point) ++ (l2.take o14.toNat)) ++ ([(a1.getD x3.toNat default)] : List Point)) ++ ((l2.drop o14.toNat).take (l2.length - o14.toNat))), (((0 + o14.toNat) + 1) + (l2.length - o14.toNat))) ⟨(len_app (len_app (len_app rfl (len_take rfl (show o14.toNat ≤ l2.length by have := (slOk_of g21); omega))) rfl) (len_drop rfl (show o14.toNat + (l2.length - o14.toNat) ≤ l2.length by have := (slOk_of g25); omega))), hm⟩ (by kernel_rfl) (by kernel_rfl)
        · rcases Bool.eq_false_or_eq_true (decide (o14 < ((l2.length : Nat) : Int))) with b16 | b16
          · replace hm := bif_t b16 hm
            obtain ⟨g17, hm⟩ := bif_n hm
            obtain ⟨g18, hm⟩ := bif_n hm
            refine R_dr Tryd.f52 14924 8 [] [(4, dfx true)] [] [0, 0, 2, 7, 15, 31, 31, 127, 255, 31, 31, 1567, 3615, 8191, 16383] 1 ⟨[(0, vc (tl e_Point default a1)), (3, vo 0 0 2 l2.length), (4, vi x3), (5, vi o14), (35, vo 0 0 2 l2.length), (36, vi o14), (37, vc (.rptr 0 0 2 o14.toNat 0)), (38, va [ci ((l2.getD o14.toNat default).X), ci ((l2.getD o14.toNat default).Y)]), (39, vc (tl e_Point default a1)), (40, vi x3), (41, vc (.lptr (e_Point (a1.getD x3.toNat default)))), (42, va [ci ((a1.getD x3.toNat default).X), ci ((a1.getD x3.toNat default).Y)]), (43, vb ((((l2.getD o14.toNat default).X) == ((a1.getD x3.toNat default).X)) && ((((l2.getD o14.toNat default).Y) == ((a1.getD x3.toNat default).Y)) && true))), (44, vb ((((l2.getD o14.toNat default).X) == ((a1.getD x3.toNat default).X)) && ((((l2.getD o14.toNat default).Y) == ((a1.getD x3.toNat default).Y)) && true)))], [(0, ro 0 38 2 l2.length (rf e_Point l2))]⟩ (o1 (And.intro b16 (And.intro (inb_of g17) (And.intro (toNat_lt (inb_of g17)) (inb_of g18))))) (by kernel_rfl) (by kernel_rfl) ?_
            exact J_mk (((((l2.getD o14.toNat default).X) == ((a1.getD x3.toNat default).X)) && ((((l2.getD o14.toNat default).Y) == ((a1.getD x3.toNat default).Y)) && true))) hm (by kernel_rfl) (by kernel_rfl)
          · replace hm := bif_f b16 hm
            refine R_dr Tryd.f52 14924 8 [] [(4, dfx false)] [] [0, 0, 2, 7, 15, 31, 31, 127, 255, 31, 31, 1567, 3615, 8191, 16383] 1 ⟨[(0, vc (tl e_Point default a1)), (3, vo 0 0 2 l2.length), (4, vi x3), (5, vi o14), (44, vb false)], [(0, ro 0 38 2 l2.length (rf e_Point l2))]⟩ (o1 b16) (by kernel_rfl) (by kernel_rfl) ?_
            exact J_mk (false) hm (by kernel_rfl) (by kernel_rfl)
    · replace hm := bif_f b4 hm
      refine R_exit 0 (by kernel_rfl) ?_
      obtain rfl := Option.some.inj hm
      exact L0_mk (by kernel_rfl) (by kernel_rfl)

set_option maxRecDepth 100000 in
theorem ref09_sorted_ok (a1 : List Point) (r : (List Point)) (hm : ref09_sorted a1 = some r) : CtX Tryd.prog globs 52 0 0 [.one (tl e_Point default a1)] [] (ref09_sorted_x r) (ref09_sorted_o r) := by
  unfold ref09_sorted at hm
  refine CtX_of_E (fn := Tryd.f52) (c := nd Tryd.f52 1) (nt := 63) (by kernel_rfl) (by kernel_rfl) (by kernel_rfl) (by kernel_rfl) fun E => ?_
  refine R_sq Tryd.f52 2 3 (by kernel_rfl) ?_
  refine R_rn Tryd.f52 2 0 [] [] 0 ⟨[(0, vc (tl e_Point default a1))], []⟩ o0 (by kernel_rfl) (by kernel_rfl) ?_
  refine R_sq Tryd.f52 6 7 (by kernel_rfl) ?_
  refine R_rn Tryd.f52 6 1 [] [] 0 ⟨[(0, vc (tl e_Point default a1)), (3, vc (.emp))], []⟩ o0 (by kernel_rfl) (by kernel_rfl) ?_
  refine R_sq Tryd.f52 14 15 (by kernel_rfl) ?_
  refine R_sq Tryd.f52 28 29 (by kernel_rfl) ?_
  refine R_rn Tryd.f52 28 2 [] [] 0 ⟨[(0, vc (tl e_Point default a1)), (3, vc (.emp)), (4, vi 0)], []⟩ o0 (by kernel_rfl) (by kernel_rfl) ?_
  refine H_fin [.own 3 0 38 2 (rf e_Point ([] : List Point))] ⟨[(0, vc (tl e_Point default a1)), (3, vo 0 0 2 0), (4, vi 0)], [(0, ro 0 38 2 0 (rf e_Point ([] : List Point)))]⟩ o0 (by kernel_rfl) ?_
  obtain ⟨o29, h30, hm⟩ := bind_s hm
  refine R_loop0 (nd Tryd.f52 116) 0 (by kernel_rfl) FUEL (fun o => ref09_sorted_L1_T o) o29 (HL_enter (ref09_sorted_L1_S a1 ([] : List Point) 0 0) (by kernel_rfl) (by kernel_rfl) (ref09_sorted_L1_ok E a1 FUEL ([] : List Point) 0 0 o29 rfl h30)) ?_
  refine R_sq Tryd.f52 30 31 (by kernel_rfl) ?_
  refine R_rn Tryd.f52 30 12 [] [] 1 ⟨[(2, vo 0 0 2 o29.length)], [(0, ro 0 38 2 o29.length (rf e_Point o29))]⟩ o0 (by kernel_rfl) (by kernel_rfl) ?_
  obtain rfl := Option.some.inj hm
  refine R_ret (by kernel_rfl) ?_
  exact ret_mk (by kernel_rfl) (by kernel_rfl)

end Saw
end Go.SL

namespace Go.SL
namespace Saw
open Go.Proofs
set_option maxHeartbeats 4000000

def ref09_Cross_x (r : Int) : V := vi r

def ref09_Cross_o (r : Int) : List (Nat × (Nat × O)) := []

theorem ref09_Cross_f (r : Int) : Frozen (ref09_Cross_o r) := by
  intro i k o h
  unfold ref09_Cross_o at h
  cases h

set_option maxRecDepth 100000 in
theorem ref09_Cross_ok (a1 : Point) (a2 : Point) (a3 : Point) (r : Int) (hm : ref09_Cross a1 a2 a3 = some r) : CtX Tryd.prog globs 33 0 0 [.agg [ci a1.X, ci a1.Y], .agg [ci a2.X, ci a2.Y], .agg [ci a3.X, ci a3.Y]] [] (ref09_Cross_x r) (ref09_Cross_o r) := by
  unfold ref09_Cross at hm
  refine CtX_of_E (fn := Tryd.f33) (c := nd Tryd.f33 1) (nt := 30) (by kernel_rfl) (by kernel_rfl) (by kernel_rfl) (by kernel_rfl) fun E => ?_
  refine R_sq Tryd.f33 2 3 (by kernel_rfl) ?_
  refine R_rn Tryd.f33 2 0 [] [] 0 ⟨[(3, vp 0 0), (4, vp 1 0), (5, vp 2 0)], [(0, bx 38 [ci a1.X, ci a1.Y]), (1, bx 38 [ci a2.X, ci a2.Y]), (2, bx 38 [ci a3.X, ci a3.Y])]⟩ o0 (by kernel_rfl) (by kernel_rfl) ?_
  refine R_sq Tryd.f33 6 7 (by kernel_rfl) ?_
  refine R_rn Tryd.f33 6 1 [] [] 3 ⟨[(6, vi (w64 ((w64 ((w64 (a2.X - a1.X)) * (w64 (a3.Y - a1.Y)))) - (w64 ((w64 (a2.Y - a1.Y)) * (w64 (a3.X - a1.X)))))))], []⟩ o0 (by kernel_rfl) (by kernel_rfl) ?_
  obtain rfl := Option.some.inj hm
  refine R_ret (by kernel_rfl) ?_
  exact ret_mk (by kernel_rfl) (by kernel_rfl)

end Saw
end Go.SL

namespace Go.SL
namespace Saw
open Go.Proofs
set_option maxHeartbeats 4000000

def ref09_chain_x (r : (List Point)) : V := vo 0 0 2 r.length

def ref09_chain_o (r : (List Point)) : List (Nat × (Nat × O)) := [(0, ro 0 38 2 r.length (rf e_Point r))]

theorem ref09_chain_f (r : (List Point)) : Frozen (ref09_chain_o r) := by
  intro i k o h
  unfold ref09_chain_o at h
  rw [look_cons] at h
  split at h
  · cases h; exact fun _ _ => rfl
  · cases h

def ref09_chain_k3_S (a1 : List Point) (x3 : Int) (l5 : List Point) (x12 : Bool) : St :=
  ⟨[(0, vc (tl e_Point default a1)), (3, vo 0 0 2 l5.length), (4, vi x3), (33, vb x12)], [(0, ro 0 38 2 l5.length (rf e_Point l5))]⟩

def ref09_chain_L2_S (a1 : List Point) (x3 : Int) (l5 : List Point) (l5n : Nat) : St :=
  ⟨[(0, vc (tl e_Point default a1)), (3, vo 0 0 2 l5n), (4, vi x3)], [(0, ro 0 38 2 l5n (rf e_Point l5))]⟩

def ref09_chain_L2_T (a1 : List Point) (x3 : Int) (l15 : List Point) : St :=
  ⟨[(0, vc (tl e_Point default a1)), (3, vo 0 0 2 l15.length), (4, vi x3)], [(0, ro 0 38 2 l15.length (rf e_Point l15))]⟩

def ref09_chain_L1_S (a1 : List Point) (l2 : List Point) (l2n : Nat) (x3 : Int) : St :=
  ⟨[(0, vc (tl e_Point default a1)), (3, vo 0 0 2 l2n), (4, vi x3)], [(0, ro 0 38 2 l2n (rf e_Point l2))]⟩

def ref09_chain_L1_T (l20 : List Point) : St :=
  ⟨[(3, vo 0 0 2 l20.length)], [(0, ro 0 38 2 l20.length (rf e_Point l20))]⟩

set_option maxRecDepth 100000 in
theorem ref09_chain_L2_ok (E : Env 0) (a1 : List Point) (x3 : Int) : ∀ (n : Nat) (l5 : List Point) (l5n : Nat) (res : (List Point)), l5.length = l5n → ref09_chain_L2 a1 x3 n l5 = some res → HL (kx E 47 0) (nd Tryd.f53 7456) (loopQ0 2 (fun o => ref09_chain_L2_T a1 x3 o) res) n (ref09_chain_L2_S a1 x3 l5 l5n) := by
  intro n
  induction n with
  | zero =>
    intro l5 l5n res hl0 hm
    cases hm
  | succ n ih =>
    intro l5 l5n res hl0 hm
    subst hl0
    refine HL_succ ?_
    refine R_sq Tryd.f53 14912 14913 (by kernel_rfl) ?_
    refine R_join (ι := Bool) (nd Tryd.f53 29824) (nd Tryd.f53 29825) (by kernel_rfl) (fun p => ref09_chain_k3_S a1 x3 l5 p) (fun p => ref09_chain_k3 l5 (ref09_chain_L2 a1 x3 n) p = some res) ?_ ?_
    · rintro x12 hm
      show H _ (ref09_chain_k3_S a1 x3 l5 x12) (nd Tryd.f53 29825) _
      refine R_cn Tryd.f53 (.tmp 33) 59650 59651 (by kernel_rfl) x12 (by kernel_rfl) (fun b13 => ?_) (fun b13 => ?_)
      · replace hm := bif_t b13 hm
        refine R_skip (by kernel_rfl) ?_
        refine R_bk Tryd.f53 3 29826 (by kernel_rfl) ?_
        obtain ⟨g14, hm⟩ := bif_n hm
        refine R_rn Tryd.f53 29826 6 [] [.row 0 ((w64 (((l5.length : Nat) : Int) - 1)).toNat) (rf e_Point (l5.take ((w64 (((l5.length : Nat) : Int) - 1)).toNat)))] 1 ⟨[(0, vc (tl e_Point default a1)), (3, vo 0 0 2 ((w64 (((l5.length : Nat) : Int) - 1)).toNat)), (4, vi x3)], [(0, ro 0 38 2 ((w64 (((l5.length : Nat) : Int) - 1)).toNat) (rf e_Point (l5.take ((w64 (((l5.length : Nat) : Int) - 1)).toNat))))]⟩ (o1 (And.intro (And.intro (slOk_of g14).2.1 (slOk_of g14).2.2) (tkP e_Point default l5 l5.length ((w64 (((l5.length : Nat) : Int) - 1)).toNat) (show (w64 (((l5.length : Nat) : Int) - 1)).toNat ≤ l5.length by have := (slOk_of g14); omega)))) (by kernel_rfl) (by kernel_rfl) ?_
        exact HL_enter (ref09_chain_L2_S a1 x3 (l5.take ((w64 (((l5.length : Nat) : Int) - 1)).toNat)) ((w64 (((l5.length : Nat) : Int) - 1)).toNat)) (by kernel_rfl) (by kernel_rfl) (ih (l5.take ((w64 (((l5.length : Nat) : Int) - 1)).toNat)) ((w64 (((l5.length : Nat) : Int) - 1)).toNat) _ (len_take rfl (show (w64 (((l5.length : Nat) : Int) - 1)).toNat ≤ l5.length by have := (slOk_of g14); omega)) hm)
      · replace hm := bif_f b13 hm
        refine R_exit 2 (by kernel_rfl) ?_
        obtain rfl := Option.some.inj hm
        exact L0_mk (by kernel_rfl) (by kernel_rfl)
    · rcases Bool.eq_false_or_eq_true (decide (((l5.length : Nat) : Int) > 1)) with b6 | b6
      · replace hm := bif_t b6 hm
        obtain ⟨g7, hm⟩ := bif_n hm
        obtain ⟨g8, hm⟩ := bif_n hm
        obtain ⟨g9, hm⟩ := bif_n hm
        obtain ⟨v10, h11, hm⟩ := bind_s hm
        refine R_dr Tryd.f53 29824 5 [] [(3, dfx true), (20, dex (cen [] [] 1 0 (ref09_Cross_x v10) (ref09_Cross_o v10) [14, 20, 26, 30] []))] [] [0, 1, 3, 7, 15, 15, 47, 111, 255, 511, 15, 15, 2063, 6159, 15375, 31759, 15, 15, 196623, 458767, 1048575, 2097151, 4194303] 1 ⟨[(0, vc (tl e_Point default a1)), (3, vo 0 0 2 l5.length), (4, vi x3), (15, vo 0 0 2 l5.length), (16, vo 0 0 2 l5.length), (17, vi ((l5.length : Nat) : Int)), (18, vi (w64 (((l5.length : Nat) : Int) - 2))), (19, vc (.rptr 0 0 2 ((w64 (((l5.length : Nat) : Int) - 2)).toNat) 0)), (20, va [ci ((l5.getD ((w64 (((l5.length : Nat) : Int) - 2)).toNat) default).X), ci ((l5.getD ((w64 (((l5.length : Nat) : Int) - 2)).toNat) default).Y)]), (21, vo 0 0 2 l5.length), (22, vo 0 0 2 l5.length), (23, vi ((l5.length : Nat) : Int)), (24, vi (w64 (((l5.length : Nat) : Int) - 1))), (25, vc (.rptr 0 0 2 ((w64 (((l5.length : Nat) : Int) - 1)).toNat) 0)), (26, va [ci ((l5.getD ((w64 (((l5.length : Nat) : Int) - 1)).toNat) default).X), ci ((l5.getD ((w64 (((l5.length : Nat) : Int) - 1)).toNat) default).Y)]), (27, vc (tl e_Point default a1)), (28, vi x3), (29, vc (.lptr (e_Point (a1.getD x3.toNat default)))), (30, va [ci ((a1.getD x3.toNat default).X), ci ((a1.getD x3.toNat default).Y)]), (31, vi v10), (32, vb (decide (v10 ≤ 0))), (33, vb (decide (v10 ≤ 0)))], [(0, ro 0 38 2 l5.length (rf e_Point l5))]⟩ (o1 (And.intro b6 (And.intro (inb_of g7) (And.intro (toNat_lt (inb_of g7)) (And.intro (inb_of g8) (And.intro (toNat_lt (inb_of g8)) (And.intro (inb_of g9) (callS (K := (kx E 47 0)) ⟨[(14, vb true), (20, va [ci ((l5.getD ((w64 (((l5.length : Nat) : Int) - 2)).toNat) default).X), ci ((l5.getD ((w64 (((l5.length : Nat) : Int) - 2)).toNat) default).Y)]), (26, va [ci ((l5.getD ((w64 (((l5.length : Nat) : Int) - 1)).toNat) default).X), ci ((l5.getD ((w64 (((l5.length : Nat) : Int) - 1)).toNat) default).Y)]), (30, va [ci ((a1.getD x3.toNat default).X), ci ((a1.getD x3.toNat default).Y)])], []⟩ (opAt (rg Tryd.f53 29824) 20) [] [] 1 o0 rfl (ref09_Cross_ok (l5.getD ((w64 (((l5.length : Nat) : Int) - 2)).toNat) default) (l5.getD ((w64 (((l5.length : Nat) : Int) - 1)).toNat) default) (a1.getD x3.toNat default) v10 h11) (.inl rfl) (by kernel_rfl))))))))) (by kernel_rfl) (by kernel_rfl) ?_
        exact J_mk (decide (v10 ≤ 0)) hm (by kernel_rfl) (by kernel_rfl)
      · replace hm := bif_f b6 hm
        refine R_dr Tryd.f53 29824 5 [] [(3, dfx false)] [] [0, 1, 3, 7, 15, 15, 47, 111, 255, 511, 15, 15, 2063, 6159, 15375, 31759, 15, 15, 196623, 458767, 1048575, 2097151, 4194303] 1 ⟨[(0, vc (tl e_Point default a1)), (3, vo 0 0 2 l5.length), (4, vi x3), (33, vb false)], [(0, ro 0 38 2 l5.length (rf e_Point l5))]⟩ (o1 b6) (by kernel_rfl) (by kernel_rfl) ?_
        exact J_mk (false) hm (by kernel_rfl) (by kernel_rfl)

set_option maxRecDepth 100000 in
theorem ref09_chain_L1_ok (E : Env 0) (a1 : List Point) : ∀ (n : Nat) (l2 : List Point) (l2n : Nat) (x3 : Int) (res : (List Point)), l2.length = l2n → ref09_chain_L1 a1 n l2 x3 = some res → HL (kx E 47 0) (nd Tryd.f53 116) (loopQ0 0 (fun o => ref09_chain_L1_T o) res) n (ref09_chain_L1_S a1 l2 l2n x3) := by
  intro n
  induction n with
  | zero =>
    intro l2 l2n x3 res hl0 hm
    cases hm
  | succ n ih =>
    intro l2 l2n x3 res hl0 hm
    subst hl0
    refine HL_succ ?_
    refine R_sq Tryd.f53 232 233 (by kernel_rfl) ?_
    refine R_sq Tryd.f53 464 465 (by kernel_rfl) ?_
    refine R_rn Tryd.f53 464 3 [] [] 1 ⟨[(0, vc (tl e_Point default a1)), (3, vo 0 0 2 l2.length), (4, vi x3), (8, vb (decide (x3 < ((a1.length : Nat) : Int))))], [(0, ro 0 38 2 l2.length (rf e_Point l2))]⟩ o0 (by kernel_rfl) (by kernel_rfl) ?_
    refine R_cn Tryd.f53 (.tmp 8) 930 931 (by kernel_rfl) (decide (x3 < ((a1.length : Nat) : Int))) (by kernel_rfl) (fun b4 => ?_) (fun b4 => ?_)
    · replace hm := bif_t b4 hm
      refine R_skip (by kernel_rfl) ?_
      refine R_sq Tryd.f53 466 467 (by kernel_rfl) ?_
      refine R_bk Tryd.f53 1 932 (by kernel_rfl) ?_
      refine R_sq Tryd.f53 1864 1865 (by kernel_rfl) ?_
      obtain ⟨o16, h17, hm⟩ := bind_s hm
      refine R_loop0 (nd Tryd.f53 7456) 2 (by kernel_rfl) FUEL (fun o => ref09_chain_L2_T a1 x3 o) o16 (HL_enter (ref09_chain_L2_S a1 x3 l2 l2.length) (by kernel_rfl) (by kernel_rfl) (ref09_chain_L2_ok E a1 x3 FUEL l2 l2.length o16 rfl h17)) ?_
      obtain ⟨g18, hm⟩ := bif_n hm
      obtain ⟨g19, hm⟩ := bif_n hm
      refine R_rn Tryd.f53 1865 7 [(5, drw 1 0 (rf e_Point ([(a1.getD x3.toNat default)] : List Point))), (6, drw 0 1 (rf e_Point (o16 ++ ([(a1.getD x3.toNat default)] : List Point))))] [] 1 ⟨[(0, vc (tl e_Point default a1)), (3, vo 0 1 2 (o16.length + 1)), (4, vi x3)], [(0, ro 1 38 2 (o16.length + 1) (rf e_Point (o16 ++ ([(a1.getD x3.toNat default)] : List Point))))]⟩ (o1 (And.intro (inb_of g18) (And.intro (litP e_Point default 2 (fun _ => rfl) ([(a1.getD x3.toNat default)] : List Point) 1 rfl) (apP e_Point default o16 ([(a1.getD x3.toNat default)] : List Point) o16.length 1 2 16 (1 ≤ 1) (Nat.le_refl _) rfl rfl (fun _ => rfl) (room_of g19))))) (by kernel_rfl) (by kernel_rfl) ?_
      refine R_rn Tryd.f53 467 4 [] [] 2 ⟨[(0, vc (tl e_Point default a1)), (3, vo 0 1 2 (o16.length + 1)), (4, vi (w64 (x3 + 1)))], [(0, ro 1 38 2 (o16.length + 1) (rf e_Point (o16 ++ ([(a1.getD x3.toNat default)] : List Point))))]⟩ o0 (by kernel_rfl) (by kernel_rfl) ?_
      exact HL_enter (ref09_chain_L1_S a1 (o16 ++ ([(a1.getD x3.toNat default)] : List Point)) (o16.length + 1) (w64 (x3 + 1))) (by kernel_rfl) (by kernel_rfl) (ih (o16 ++ ([(a1.getD x3.toNat default)] : List Point)) (o16.length + 1) (w64 (x3 + 1)) _ (len_app rfl rfl) hm)
    · replace hm := bif_f b4 hm
      refine R_exit 0 (by kernel_rfl) ?_
      obtain rfl := Option.some.inj hm
      exact L0_mk (by kernel_rfl) (by kernel_rfl)

set_option maxRecDepth 100000 in
theorem ref09_chain_ok (a1 : List Point) (r : (List Point)) (hm : ref09_chain a1 = some r) : CtX Tryd.prog globs 53 0 0 [.one (tl e_Point default a1)] [] (ref09_chain_x r) (ref09_chain_o r) := by
  unfold ref09_chain at hm
  refine CtX_of_E (fn := Tryd.f53) (c := nd Tryd.f53 1) (nt := 47) (by kernel_rfl) (by kernel_rfl) (by kernel_rfl) (by kernel_rfl) fun E => ?_
  refine R_sq Tryd.f53 2 3 (by kernel_rfl) ?_
  refine R_rn Tryd.f53 2 0 [] [] 0 ⟨[(0, vc (tl e_Point default a1))], []⟩ o0 (by kernel_rfl) (by kernel_rfl) ?_
  refine R_sq Tryd.f53 6 7 (by kernel_rfl) ?_
  refine R_rn Tryd.f53 6 1 [] [] 0 ⟨[(0, vc (tl e_Point default a1)), (3, vc (.emp))], []⟩ o0 (by kernel_rfl) (by kernel_rfl) ?_
  refine R_sq Tryd.f53 14 15 (by kernel_rfl) ?_
  refine R_sq Tryd.f53 28 29 (by kernel_rfl) ?_
  refine R_rn Tryd.f53 28 2 [] [] 0 ⟨[(0, vc (tl e_Point default a1)), (3, vc (.emp)), (4, vi 0)], []⟩ o0 (by kernel_rfl) (by kernel_rfl) ?_
  refine H_fin [.own 3 0 38 2 (rf e_Point ([] : List Point))] ⟨[(0, vc (tl e_Point default a1)), (3, vo 0 0 2 0), (4, vi 0)], [(0, ro 0 38 2 0 (rf e_Point ([] : List Point)))]⟩ o0 (by kernel_rfl) ?_
  obtain ⟨o21, h22, hm⟩ := bind_s hm
  refine R_loop0 (nd Tryd.f53 116) 0 (by kernel_rfl) FUEL (fun o => ref09_chain_L1_T o) o21 (HL_enter (ref09_chain_L1_S a1 ([] : List Point) 0 0) (by kernel_rfl) (by kernel_rfl) (ref09_chain_L1_ok E a1 FUEL ([] : List Point) 0 0 o21 rfl h22)) ?_
  refine R_sq Tryd.f53 30 31 (by kernel_rfl) ?_
  refine R_rn Tryd.f53 30 8 [] [] 1 ⟨[(2, vo 0 0 2 o21.length)], [(0, ro 0 38 2 o21.length (rf e_Point o21))]⟩ o0 (by kernel_rfl) (by kernel_rfl) ?_
  obtain rfl := Option.some.inj hm
  refine R_ret (by kernel_rfl) ?_
  exact ret_mk (by kernel_rfl) (by kernel_rfl)

end Saw
end Go.SL

namespace Go.SL
namespace Saw
open Go.Proofs
set_option maxHeartbeats 4000000

def ref09_Hull_x (r : (List Point)) : V := vo 0 0 2 r.length

def ref09_Hull_o (r : (List Point)) : List (Nat × (Nat × O)) := [(0, ro 0 38 2 r.length (rf e_Point r))]

theorem ref09_Hull_f (r : (List Point)) : Frozen (ref09_Hull_o r) := by
  intro i k o h
  unfold ref09_Hull_o at h
  rw [look_cons] at h
  split at h
  · cases h; exact fun _ _ => rfl
  · cases h

def ref09_Hull_L2_S (v7 : (List Point)) (l9 : List Point) (l9n : Nat) (x10 : Int) : St :=
  ⟨[(3, vo 0 0 2 v7.length), (4, vo 1 0 2 l9n), (5, vi x10)], [(0, ro 0 38 2 v7.length (rf e_Point v7)), (1, ro 0 38 2 l9n (rf e_Point l9))]⟩

def ref09_Hull_L2_T (v7 : (List Point)) (l14 : List Point) : St :=
  ⟨[(3, vo 0 0 2 v7.length), (4, vo 1 0 2 l14.length)], [(0, ro 0 38 2 v7.length (rf e_Point v7)), (1, ro 0 38 2 l14.length (rf e_Point l14))]⟩

def ref09_Hull_k1_S (a1 : List Point) (x5 : Bool) : St :=
  ⟨[(0, vc (tl e_Point default a1)), (16, vb x5)], []⟩

set_option maxRecDepth 100000 in
theorem ref09_Hull_L2_ok (E : Env 0) (v7 : (List Point)) : ∀ (n : Nat) (l9 : List Point) (l9n : Nat) (x10 : Int) (res : (List Point)), l9.length = l9n → ref09_Hull_L2 v7 n l9 x10 = some res → HL (kx E 57 0) (nd Tryd.f28 500) (loopQ0 0 (fun o => ref09_Hull_L2_T v7 o) res) n (ref09_Hull_L2_S v7 l9 l9n x10) := by
  intro n
  induction n with
  | zero =>
    intro l9 l9n x10 res hl0 hm
    cases hm
  | succ n ih =>
    intro l9 l9n x10 res hl0 hm
    subst hl0
    refine HL_succ ?_
    refine R_sq Tryd.f28 1000 1001 (by kernel_rfl) ?_
    refine R_sq Tryd.f28 2000 2001 (by kernel_rfl) ?_
    refine R_rn Tryd.f28 2000 6 [] [] 2 ⟨[(3, vo 0 0 2 v7.length), (4, vo 1 0 2 l9.length), (5, vi x10), (23, vb (decide (x10 ≥ 0)))], [(0, ro 0 38 2 v7.length (rf e_Point v7)), (1, ro 0 38 2 l9.length (rf e_Point l9))]⟩ o0 (by kernel_rfl) (by kernel_rfl) ?_
    refine R_cn Tryd.f28 (.tmp 23) 4002 4003 (by kernel_rfl) (decide (x10 ≥ 0)) (by kernel_rfl) (fun b11 => ?_) (fun b11 => ?_)
    · replace hm := bif_t b11 hm
      refine R_skip (by kernel_rfl) ?_
      refine R_sq Tryd.f28 2002 2003 (by kernel_rfl) ?_
      refine R_bk Tryd.f28 1 4004 (by kernel_rfl) ?_
      obtain ⟨g12, hm⟩ := bif_n hm
      obtain ⟨g13, hm⟩ := bif_n hm
      refine R_rn Tryd.f28 4004 8 [(5, drw 2 0 (rf e_Point ([(v7.getD x10.toNat default)] : List Point))), (6, drw 1 1 (rf e_Point (l9 ++ ([(v7.getD x10.toNat default)] : List Point))))] [] 2 ⟨[(3, vo 0 0 2 v7.length), (4, vo 1 1 2 (l9.length + 1)), (5, vi x10)], [(0, ro 0 38 2 v7.length (rf e_Point v7)), (1, ro 1 38 2 (l9.length + 1) (rf e_Point (l9 ++ ([(v7.getD x10.toNat default)] : List Point))))]⟩ (o1 (And.intro (inb_of g12) (And.intro (toNat_lt (inb_of g12)) (And.intro (litP e_Point default 2 (fun _ => rfl) ([(v7.getD x10.toNat default)] : List Point) 1 rfl) (apP e_Point default l9 ([(v7.getD x10.toNat default)] : List Point) l9.length 1 2 16 (1 ≤ 1) (Nat.le_refl _) rfl rfl (fun _ => rfl) (room_of g13)))))) (by kernel_rfl) (by kernel_rfl) ?_
      refine R_rn Tryd.f28 2003 7 [] [] 3 ⟨[(3, vo 0 0 2 v7.length), (4, vo 1 1 2 (l9.length + 1)), (5, vi (w64 (x10 - 1)))], [(0, ro 0 38 2 v7.length (rf e_Point v7)), (1, ro 1 38 2 (l9.length + 1) (rf e_Point (l9 ++ ([(v7.getD x10.toNat default)] : List Point))))]⟩ o0 (by kernel_rfl) (by kernel_rfl) ?_
      exact HL_enter (ref09_Hull_L2_S v7 (l9 ++ ([(v7.getD x10.toNat default)] : List Point)) (l9.length + 1) (w64 (x10 - 1))) (by kernel_rfl) (by kernel_rfl) (ih (l9 ++ ([(v7.getD x10.toNat default)] : List Point)) (l9.length + 1) (w64 (x10 - 1)) _ (len_app rfl rfl) hm)
    · replace hm := bif_f b11 hm
      refine R_exit 0 (by kernel_rfl) ?_
      obtain rfl := Option.some.inj hm
      exact L0_mk (by kernel_rfl) (by kernel_rfl)

set_option maxRecDepth 100000 in
theorem ref09_Hull_ok (a1 : List Point) (r : (List Point)) (hm : ref09_Hull a1 = some r) : CtX Tryd.prog globs 28 0 0 [.one (tl e_Point default a1)] [] (ref09_Hull_x r) (ref09_Hull_o r) := by
  unfold ref09_Hull at hm
  refine CtX_of_E (fn := Tryd.f28) (c := nd Tryd.f28 1) (nt := 57) (by kernel_rfl) (by kernel_rfl) (by kernel_rfl) (by kernel_rfl) fun E => ?_
  refine R_sq Tryd.f28 2 3 (by kernel_rfl) ?_
  refine R_rn Tryd.f28 2 0 [] [] 0 ⟨[(0, vc (tl e_Point default a1))], []⟩ o0 (by kernel_rfl) (by kernel_rfl) ?_
  refine R_sq Tryd.f28 6 7 (by kernel_rfl) ?_
  refine R_join (ι := Bool) (nd Tryd.f28 12) (nd Tryd.f28 13) (by kernel_rfl) (fun p => ref09_Hull_k1_S a1 p) (fun p => ref09_Hull_k1 a1 p = some r) ?_ ?_
  · rintro x5 hm
    show H _ (ref09_Hull_k1_S a1 x5) (nd Tryd.f28 13) _
    refine R_cn Tryd.f28 (.tmp 16) 26 27 (by kernel_rfl) x5 (by kernel_rfl) (fun b6 => ?_) (fun b6 => ?_)
    · replace hm := bif_t b6 hm
      refine R_sq Tryd.f28 52 53 (by kernel_rfl) ?_
      refine R_rn Tryd.f28 52 2 [] [] 0 ⟨[(2, vc (.emp))], []⟩ o0 (by kernel_rfl) (by kernel_rfl) ?_
      refine H_fin [.own 2 0 38 2 (rf e_Point ([] : List Point))] ⟨[(2, vo 0 0 2 0)], [(0, ro 0 38 2 0 (rf e_Point ([] : List Point)))]⟩ o0 (by kernel_rfl) ?_
      refine H_fin [.len 0 (([] : List Point).length)] ⟨[(2, vo 0 0 2 (([] : List Point).length))], [(0, ro 0 38 2 (([] : List Point).length) (rf e_Point ([] : List Point)))]⟩ (o1 (And.intro (show 0 = ([] : List Point).length from rfl) (show 0 = ([] : List Point).length from rfl))) (by kernel_rfl) ?_
      obtain rfl := Option.some.inj hm
      refine R_ret (by kernel_rfl) ?_
      exact ret_mk (by kernel_rfl) (by kernel_rfl)
    · replace hm := bif_f b6 hm
      refine R_skip (by kernel_rfl) ?_
      refine R_sq Tryd.f28 14 15 (by kernel_rfl) ?_
      obtain ⟨v7, h8, hm⟩ := bind_s hm
      refine R_rn Tryd.f28 14 3 [(1, dex (cen [] [] 0 0 (ref09_sorted_x v7) (ref09_sorted_o v7) [17] []))] [] 0 ⟨[(3, vo 0 0 2 v7.length)], [(0, ro 0 38 2 v7.length (rf e_Point v7))]⟩ (o1 (callS (K := (kx E 57 0)) ⟨[(17, vc (tl e_Point default a1))], []⟩ (opAt (rg Tryd.f28 14) 1) [] [] 0 o0 rfl (ref09_sorted_ok a1 v7 h8) (.inl rfl) (by kernel_rfl))) (by kernel_rfl) (by kernel_rfl) ?_
      refine R_sq Tryd.f28 30 31 (by kernel_rfl) ?_
      refine R_rn Tryd.f28 30 4 [] [] 1 ⟨[(3, vo 0 0 2 v7.length), (4, vc (.emp))], [(0, ro 0 38 2 v7.length (rf e_Point v7))]⟩ o0 (by kernel_rfl) (by kernel_rfl) ?_
      refine R_sq Tryd.f28 62 63 (by kernel_rfl) ?_
      refine R_sq Tryd.f28 124 125 (by kernel_rfl) ?_
      refine R_rn Tryd.f28 124 5 [] [] 1 ⟨[(3, vo 0 0 2 v7.length), (4, vc (.emp)), (5, vi (w64 (((v7.length : Nat) : Int) - 1)))], [(0, ro 0 38 2 v7.length (rf e_Point v7))]⟩ o0 (by kernel_rfl) (by kernel_rfl) ?_
      refine H_fin [.own 4 1 38 2 (rf e_Point ([] : List Point))] ⟨[(3, vo 0 0 2 v7.length), (4, vo 1 0 2 0), (5, vi (w64 (((v7.length : Nat) : Int) - 1)))], [(0, ro 0 38 2 v7.length (rf e_Point v7)), (1, ro 0 38 2 0 (rf e_Point ([] : List Point)))]⟩ o0 (by kernel_rfl) ?_
      obtain ⟨o15, h16, hm⟩ := bind_s hm
      refine R_loop0 (nd Tryd.f28 500) 0 (by kernel_rfl) FUEL (fun o => ref09_Hull_L2_T v7 o) o15 (HL_enter (ref09_Hull_L2_S v7 ([] : List Point) 0 (w64 (((v7.length : Nat) : Int) - 1))) (by kernel_rfl) (by kernel_rfl) (ref09_Hull_L2_ok E v7 FUEL ([] : List Point) 0 (w64 (((v7.length : Nat) : Int) - 1)) o15 rfl h16)) ?_
      refine R_sq Tryd.f28 126 127 (by kernel_rfl) ?_
      obtain ⟨v17, h18, hm⟩ := bind_s hm
      obtain ⟨v19, h20, hm⟩ := bind_s hm
      refine R_rn Tryd.f28 126 9 [(1, dex (cen [] [] 2 0 (ref09_chain_x v17) (ref09_chain_o v17) [33] [0])), (3, dex (cen [] [] 3 0 (ref09_chain_x v19) (ref09_chain_o v19) [35] [1]))] [] 2 ⟨[(6, vo 2 0 2 v17.length), (7, vo 3 0 2 v19.length)], [(2, ro 0 38 2 v17.length (rf e_Point v17)), (3, ro 0 38 2 v19.length (rf e_Point v19))]⟩ (o1 (And.intro (callS (K := (kx E 57 0)) (b := false) ⟨[(33, vo 0 0 2 v7.length)], [(0, ro 0 38 2 v7.length (rf e_Point v7))]⟩ (opAt (rg Tryd.f28 126) 1) [] [] 2 (o1 (Nat.le_refl v7.length)) rfl (ref09_chain_ok v7 v17 h18) (.inr ⟨(by kernel_rfl), ref09_chain_f v17⟩) (by kernel_rfl)) (callS (K := (kx E 57 0)) (b := false) ⟨[(35, vo 1 0 2 o15.length)], [(1, ro 0 38 2 o15.length (rf e_Point o15))]⟩ (opAt (rg Tryd.f28 126) 3) [] [] 3 (o1 (Nat.le_refl o15.length)) rfl (ref09_chain_ok o15 v19 h20) (.inr ⟨(by kernel_rfl), ref09_chain_f v19⟩) (by kernel_rfl)))) (by kernel_rfl) (by kernel_rfl) ?_
      refine R_sq Tryd.f28 254 255 (by kernel_rfl) ?_
      refine R_sq Tryd.f28 508 509 (by kernel_rfl) ?_
      refine R_rn Tryd.f28 508 10 [] [] 4 ⟨[(6, vo 2 0 2 v17.length), (7, vo 3 0 2 v19.length), (42, vb (decide ((w64 (((v17.length : Nat) : Int) + ((v19.length : Nat) : Int))) < 5)))], [(2, ro 0 38 2 v17.length (rf e_Point v17)), (3, ro 0 38 2 v19.length (rf e_Point v19))]⟩ o0 (by kernel_rfl) (by kernel_rfl) ?_
      refine R_cn Tryd.f28 (.tmp 42) 1018 1019 (by kernel_rfl) (decide ((w64 (((v17.length : Nat) : Int) + ((v19.length : Nat) : Int))) < 5)) (by kernel_rfl) (fun b21 => ?_) (fun b21 => ?_)
      · replace hm := bif_t b21 hm
        refine R_sq Tryd.f28 2036 2037 (by kernel_rfl) ?_
        refine R_rn Tryd.f28 2036 11 [] [] 4 ⟨[(2, vc (.emp))], []⟩ o0 (by kernel_rfl) (by kernel_rfl) ?_
        refine H_fin [.own 2 4 38 2 (rf e_Point ([] : List Point))] ⟨[(2, vo 4 0 2 0)], [(4, ro 0 38 2 0 (rf e_Point ([] : List Point)))]⟩ o0 (by kernel_rfl) ?_
        refine H_fin [.len 4 (([] : List Point).length)] ⟨[(2, vo 4 0 2 (([] : List Point).length))], [(4, ro 0 38 2 (([] : List Point).length) (rf e_Point ([] : List Point)))]⟩ (o1 (And.intro (show 0 = ([] : List Point).length from rfl) (show 0 = ([] : List Point).length from rfl))) (by kernel_rfl) ?_
        obtain rfl := Option.some.inj hm
        refine H_swap 4 0 (by kernel_rfl) ?_
        refine R_ret (by kernel_rfl) ?_
        exact ret_mk (by kernel_rfl) (by kernel_rfl)
      · replace hm := bif_f b21 hm
        refine R_skip (by kernel_rfl) ?_
        refine R_sq Tryd.f28 510 511 (by kernel_rfl) ?_
        obtain ⟨g22, hm⟩ := bif_n hm
        obtain ⟨g23, hm⟩ := bif_n hm
        refine R_rn Tryd.f28 510 12 [(0, drw 4 0 (rf e_Point ([] : List Point))), (6, drw 4 1 (rf e_Point (([] : List Point) ++ (v17.take ((w64 (((v17.length : Nat) : Int) - 1)).toNat)))))] [] 4 ⟨[(7, vo 3 0 2 v19.length), (8, vo 4 1 2 (0 + (w64 (((v17.length : Nat) : Int) - 1)).toNat))], [(3, ro 0 38 2 v19.length (rf e_Point v19)), (4, ro 1 38 2 (0 + (w64 (((v17.length : Nat) : Int) - 1)).toNat) (rf e_Point (([] : List Point) ++ (v17.take ((w64 (((v17.length : Nat) : Int) - 1)).toNat)))))]⟩ (o1 (And.intro (litP e_Point default 2 (fun _ => rfl) ([] : List Point) 0 rfl) (And.intro (And.intro (slOk_of g22).2.1 (slOk_of g22).2.2) (apPt e_Point default ([] : List Point) v17 0 ((w64 (((v17.length : Nat) : Int) - 1)).toNat) v17.length 2 16 (show (w64 (((v17.length : Nat) : Int) - 1)).toNat ≤ v17.length by have := (slOk_of g22); omega) rfl rfl (fun _ => rfl) (room_of g23))))) (by kernel_rfl) (by kernel_rfl) ?_
        refine R_sq Tryd.f28 1022 1023 (by kernel_rfl) ?_
        obtain ⟨g24, hm⟩ := bif_n hm
        obtain ⟨g25, hm⟩ := bif_n hm
        refine R_rn Tryd.f28 1022 13 [(6, drw 4 2 (rf e_Point ((([] : List Point) ++ (v17.take ((w64 (((v17.length : Nat) : Int) - 1)).toNat))) ++ (v19.take ((w64 (((v19.length : Nat) : Int) - 1)).toNat)))))] [] 5 ⟨[(2, vo 4 2 2 ((0 + (w64 (((v17.length : Nat) : Int) - 1)).toNat) + (w64 (((v19.length : Nat) : Int) - 1)).toNat))], [(4, ro 2 38 2 ((0 + (w64 (((v17.length : Nat) : Int) - 1)).toNat) + (w64 (((v19.length : Nat) : Int) - 1)).toNat) (rf e_Point ((([] : List Point) ++ (v17.take ((w64 (((v17.length : Nat) : Int) - 1)).toNat))) ++ (v19.take ((w64 (((v19.length : Nat) : Int) - 1)).toNat)))))]⟩ (o1 (And.intro (And.intro (slOk_of g24).2.1 (slOk_of g24).2.2) (apPt e_Point default (([] : List Point) ++ (v17.take ((w64 (((v17.length : Nat) : Int) - 1)).toNat))) v19 (0 + (w64 (((v17.length : Nat) : Int) - 1)).toNat) ((w64 (((v19.length : Nat) : Int) - 1)).toNat) v19.length 2 16 (show (w64 (((v19.length : Nat) : Int) - 1)).toNat ≤ v19.length by have := (slOk_of g24); omega) (len_app rfl (len_take rfl (show (w64 (((v17.length : Nat) : Int) - 1)).toNat ≤ v17.length by have := (slOk_of g22); omega))) rfl (fun _ => rfl) (room_of g25)))) (by kernel_rfl) (by kernel_rfl) ?_
        refine H_fin [.len 4 (((([] : List Point) ++ (v17.take ((w64 (((v17.length : Nat) : Int) - 1)).toNat))) ++ (v19.take ((w64 (((v19.length : Nat) : Int) - 1)).toNat))).length)] ⟨[(2, vo 4 2 2 (((([] : List Point) ++ (v17.take ((w64 (((v17.length : Nat) : Int) - 1)).toNat))) ++ (v19.take ((w64 (((v19.length : Nat) : Int) - 1)).toNat))).length))], [(4, ro 2 38 2 (((([] : List Point) ++ (v17.take ((w64 (((v17.length : Nat) : Int) - 1)).toNat))) ++ (v19.take ((w64 (((v19.length : Nat) : Int) - 1)).toNat))).length) (rf e_Point ((([] : List Point) ++ (v17.take ((w64 (((v17.length : Nat) : Int) - 1)).toNat))) ++ (v19.take ((w64 (((v19.length : Nat) : Int) - 1)).toNat)))))]⟩ (o1 (And.intro (Eq.symm (show ((([] : List Point) ++ (v17.take ((w64 (((v17.length : Nat) : Int) - 1)).toNat))) ++ (v19.take ((w64 (((v19.length : Nat) : Int) - 1)).toNat))).length = ((0 + (w64 (((v17.length : Nat) : Int) - 1)).toNat) + (w64 (((v19.length : Nat) : Int) - 1)).toNat) from (len_app (len_app rfl (len_take rfl (show (w64 (((v17.length : Nat) : Int) - 1)).toNat ≤ v17.length by have := (slOk_of g22); omega))) (len_take rfl (show (w64 (((v19.length : Nat) : Int) - 1)).toNat ≤ v19.length by have := (slOk_of g24); omega))))) (Eq.symm (show ((([] : List Point) ++ (v17.take ((w64 (((v17.length : Nat) : Int) - 1)).toNat))) ++ (v19.take ((w64 (((v19.length : Nat) : Int) - 1)).toNat))).length = ((0 + (w64 (((v17.length : Nat) : Int) - 1)).toNat) + (w64 (((v19.length : Nat) : Int) - 1)).toNat) from (len_app (len_app rfl (len_take rfl (show (w64 (((v17.length : Nat) : Int) - 1)).toNat ≤ v17.length by have := (slOk_of g22); omega))) (len_take rfl (show (w64 (((v19.length : Nat) : Int) - 1)).toNat ≤ v19.length by have := (slOk_of g24); omega))))))) (by kernel_rfl) ?_
        obtain rfl := Option.some.inj hm
        refine H_swap 4 0 (by kernel_rfl) ?_
        refine R_ret (by kernel_rfl) ?_
        exact ret_mk (by kernel_rfl) (by kernel_rfl)
  · rcases Bool.eq_false_or_eq_true (decide (((a1.length : Nat) : Int) > 32)) with b2 | b2
    · replace hm := bif_t b2 hm
      refine R_rn Tryd.f28 12 1 [(3, dfx true)] [] 0 ⟨[(0, vc (tl e_Point default a1)), (16, vb true)], []⟩ (o1 b2) (by kernel_rfl) (by kernel_rfl) ?_
      exact J_mk (true) hm (by kernel_rfl) (by kernel_rfl)
    · replace hm := bif_f b2 hm
      obtain ⟨v3, h4, hm⟩ := bind_s hm
      refine R_rn Tryd.f28 12 1 [(3, dfx false), (5, dex (cen [] [] 0 0 (ref09_Ranged_x v3) (ref09_Ranged_o v3) [12, 13] []))] [] 0 ⟨[(0, vc (tl e_Point default a1)), (16, vb (!v3))], []⟩ (o1 (And.intro b2 (callS (K := (kx E 57 0)) ⟨[(12, vb false), (13, vc (tl e_Point default a1))], []⟩ (opAt (rg Tryd.f28 12) 5) [] [] 0 o0 rfl (ref09_Ranged_ok a1 v3 h4) (.inl rfl) (by kernel_rfl)))) (by kernel_rfl) (by kernel_rfl) ?_
      exact J_mk (!v3) hm (by kernel_rfl) (by kernel_rfl)

end Saw
end Go.SL

namespace Go.SL
namespace Saw
open Go.Proofs
set_option maxHeartbeats 4000000

def ref09_floor_x (r : Int) : V := vi r

def ref09_floor_o (r : Int) : List (Nat × (Nat × O)) := []

theorem ref09_floor_f (r : Int) : Frozen (ref09_floor_o r) := by
  intro i k o h
  unfold ref09_floor_o at h
  cases h

def ref09_floor_k1_S (x5 : Int) : St :=
  ⟨[(5, vi x5)], []⟩

set_option maxRecDepth 100000 in
theorem ref09_floor_ok (a1 : Int) (a2 : Int) (r : Int) (hm : ref09_floor a1 a2 = some r) : CtX Tryd.prog globs 60 0 0 [.one (ci a1), .one (ci a2)] [] (ref09_floor_x r) (ref09_floor_o r) := by
  unfold ref09_floor at hm
  refine CtX_of_E (fn := Tryd.f60) (c := nd Tryd.f60 1) (nt := 17) (by kernel_rfl) (by kernel_rfl) (by kernel_rfl) (by kernel_rfl) fun E => ?_
  refine R_sq Tryd.f60 2 3 (by kernel_rfl) ?_
  refine R_rn Tryd.f60 2 0 [] [] 0 ⟨[(0, vi a1), (1, vi a2)], []⟩ o0 (by kernel_rfl) (by kernel_rfl) ?_
  refine R_sq Tryd.f60 6 7 (by kernel_rfl) ?_
  obtain ⟨g3, hm⟩ := bif_n hm
  refine R_rn Tryd.f60 6 1 [] [] 0 ⟨[(0, vi a1), (1, vi a2), (5, vi (w64 (Int.tdiv a1 a2)))], []⟩ (o1 (nz_of g3)) (by kernel_rfl) (by kernel_rfl) ?_
  refine R_join (ι := Int) (nd Tryd.f60 14) (nd Tryd.f60 15) (by kernel_rfl) (fun p => ref09_floor_k1_S p) (fun p => ref09_floor_k1 p = some r) ?_ ?_
  · rintro x5 hm
    show H _ (ref09_floor_k1_S x5) (nd Tryd.f60 15) _
    refine R_sq Tryd.f60 30 31 (by kernel_rfl) ?_
    refine R_rn Tryd.f60 30 4 [] [] 0 ⟨[(4, vi x5)], []⟩ o0 (by kernel_rfl) (by kernel_rfl) ?_
    obtain rfl := Option.some.inj hm
    refine R_ret (by kernel_rfl) ?_
    exact ret_mk (by kernel_rfl) (by kernel_rfl)
  · refine R_sq Tryd.f60 28 29 (by kernel_rfl) ?_
    refine R_rn Tryd.f60 28 2 [] [] 0 ⟨[(5, vi (w64 (Int.tdiv a1 a2))), (13, vb (decide ((w64 ((w64 (Int.tdiv a1 a2)) * a2)) > a1)))], []⟩ o0 (by kernel_rfl) (by kernel_rfl) ?_
    refine R_cn Tryd.f60 (.tmp 13) 58 59 (by kernel_rfl) (decide ((w64 ((w64 (Int.tdiv a1 a2)) * a2)) > a1)) (by kernel_rfl) (fun b4 => ?_) (fun b4 => ?_)
    · replace hm := bif_t b4 hm
      refine R_rn Tryd.f60 58 3 [] [] 0 ⟨[(5, vi (w64 ((w64 (Int.tdiv a1 a2)) - 1)))], []⟩ o0 (by kernel_rfl) (by kernel_rfl) ?_
      exact J_mk (w64 ((w64 (Int.tdiv a1 a2)) - 1)) hm (by kernel_rfl) (by kernel_rfl)
    · replace hm := bif_f b4 hm
      refine R_skip (by kernel_rfl) ?_
      exact J_mk (w64 (Int.tdiv a1 a2)) hm (by kernel_rfl) (by kernel_rfl)

end Saw
end Go.SL
