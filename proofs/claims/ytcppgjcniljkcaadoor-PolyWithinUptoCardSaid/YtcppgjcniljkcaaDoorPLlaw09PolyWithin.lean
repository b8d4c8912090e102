import Derived.Test.YtcppgjcniljkcaaDoorPBase
import Derived.Test.YtcppgjcniljkcaaDoorPLlaw09awake
import Derived.Test.YtcppgjcniljkcaaDoorPFa4
set_option linter.unusedVariables false
set_option linter.unusedSimpArgs false
namespace Go.SL
namespace Saw
open Go.Proofs
set_option maxHeartbeats 4000000

def law09_PolyWithin_x (r : Bool) : V := vb r

def law09_PolyWithin_o (r : Bool) : List (Nat × (Nat × O)) := []

theorem law09_PolyWithin_f (r : Bool) : Frozen (law09_PolyWithin_o r) := by
  intro i k o h
  unfold law09_PolyWithin_o at h
  cases h

def law09_PolyWithin_k2_S (x26 : Bool) : St :=
  ⟨[(6, vb x26)], []⟩

def law09_PolyWithin_k3_S (x33 : Bool) : St :=
  ⟨[(6, vb x33)], []⟩

def law09_PolyWithin_k1_S (a1 : List Point) (a2 : List Point) (a3 : List Int) (x12 : Bool) : St :=
  ⟨[(0, vc (tl e_Point default a1)), (5, vp 0 0), (7, vo 1 0 2 ((0 + a1.length) + a2.length)), (44, vb x12)], [(0, bx 49 [ci (a3.getD 0 default), ci (a3.getD 1 default), ci (a3.getD 2 default), ci (a3.getD 3 default)]), (1, ro 0 38 2 ((0 + a1.length) + a2.length) (rf e_Point ((([] : List Point) ++ a1) ++ a2)))]⟩

set_option maxRecDepth 100000 in
theorem law09_PolyWithin_ok (a1 : List Point) (a2 : List Point) (a3 : List Int) (r : Bool) (hm : law09_PolyWithin a1 a2 a3 = some r) : CtX Tryd.prog globs 11 0 0 [.one (tl e_Point default a1), .one (tl e_Point default a2), .agg [ci (a3.getD 0 default), ci (a3.getD 1 default), ci (a3.getD 2 default), ci (a3.getD 3 default)]] [] (law09_PolyWithin_x r) (law09_PolyWithin_o r) := by
  unfold law09_PolyWithin at hm
  refine CtX_of_E (fn := Tryd.f11) (c := nd Tryd.f11 1) (nt := 104) (by kernel_rfl) (by kernel_rfl) (by kernel_rfl) (by kernel_rfl) fun E => ?_
  refine R_sq Tryd.f11 2 3 (by kernel_rfl) ?_
  refine R_rn Tryd.f11 2 0 [] [] 0 ⟨[(0, vc (tl e_Point default a1)), (1, vc (tl e_Point default a2)), (5, vp 0 0)], [(0, bx 49 [ci (a3.getD 0 default), ci (a3.getD 1 default), ci (a3.getD 2 default), ci (a3.getD 3 default)])]⟩ o0 (by kernel_rfl) (by kernel_rfl) ?_
  refine R_sq Tryd.f11 6 7 (by kernel_rfl) ?_
  obtain ⟨g4, hm⟩ := bif_n hm
  obtain ⟨g5, hm⟩ := bif_n hm
  refine R_rn Tryd.f11 6 1 [(0, drw 1 0 (rf e_Point ([] : List Point))), (2, drw 1 1 (rf e_Point (([] : List Point) ++ a1))), (4, drw 1 2 (rf e_Point ((([] : List Point) ++ a1) ++ a2)))] [] 1 ⟨[(0, vc (tl e_Point default a1)), (5, vp 0 0), (7, vo 1 2 2 ((0 + a1.length) + a2.length))], [(0, bx 49 [ci (a3.getD 0 default), ci (a3.getD 1 default), ci (a3.getD 2 default), ci (a3.getD 3 default)]), (1, ro 2 38 2 ((0 + a1.length) + a2.length) (rf e_Point ((([] : List Point) ++ a1) ++ a2)))]⟩ (o1 (And.intro (litP e_Point default 2 (fun _ => rfl) ([] : List Point) 0 rfl) (And.intro (apP e_Point default ([] : List Point) a1 0 a1.length 2 16 (True) trivial rfl rfl (fun _ => rfl) (room_of g4)) (apP e_Point default (([] : List Point) ++ a1) a2 (0 + a1.length) a2.length 2 16 (True) trivial (len_app rfl rfl) rfl (fun _ => rfl) (room_of g5))))) (by kernel_rfl) (by kernel_rfl) ?_
  refine R_sq Tryd.f11 14 15 (by kernel_rfl) ?_
  refine R_join (ι := Bool) (nd Tryd.f11 28) (nd Tryd.f11 29) (by kernel_rfl) (fun p => law09_PolyWithin_k1_S a1 a2 a3 p) (fun p => law09_PolyWithin_k1 a1 a2 a3 p = some r) ?_ ?_
  · rintro x12 hm
    show H _ (law09_PolyWithin_k1_S a1 a2 a3 x12) (nd Tryd.f11 29) _
    refine R_cn Tryd.f11 (.tmp 44) 58 59 (by kernel_rfl) x12 (by kernel_rfl) (fun b13 => ?_) (fun b13 => ?_)
    · replace hm := bif_t b13 hm
      refine R_sq Tryd.f11 116 117 (by kernel_rfl) ?_
      obtain ⟨v14, h15, hm⟩ := bind_s hm
      refine R_rn Tryd.f11 116 3 [(0, dex (cen [] [] 2 0 (law09_awake_x v14) (law09_awake_o v14) [] []))] [] 2 ⟨[(6, vb v14)], []⟩ (o1 (callS (K := (kx E 104 0)) ⟨[], []⟩ (opAt (rg Tryd.f11 116) 0) [] [] 2 o0 rfl (law09_awake_ok v14 h15) (.inl rfl) (by kernel_rfl))) (by kernel_rfl) (by kernel_rfl) ?_
      obtain rfl := Option.some.inj hm
      refine R_ret (by kernel_rfl) ?_
      exact ret_mk (by kernel_rfl) (by kernel_rfl)
    · replace hm := bif_f b13 hm
      refine R_skip (by kernel_rfl) ?_
      refine R_sq Tryd.f11 30 31 (by kernel_rfl) ?_
      obtain ⟨v16, h17, hm⟩ := bind_s hm
      obtain ⟨v18, h19, hm⟩ := bind_s hm
      obtain ⟨v20, h21, hm⟩ := bind_s hm
      refine R_dr Tryd.f11 30 4 [] [(5, dex (cen [] [] 2 0 (poly_Chord_x v16) (poly_Chord_o v16) [46, 48, 50] [])), (11, dex (cen [] [] 2 0 (poly_Chord_x v18) (poly_Chord_o v18) [52, 54, 56] [])), (17, dex (cen [] [] 2 0 (poly_Chord_x v20) (poly_Chord_o v20) [58, 60, 62] [1]))] [] [0, 0, 2, 0, 8, 31, 0, 0, 128, 0, 512, 2047, 0, 0, 8192, 0, 32768, 131071, 0, 0, 0, 2097151, 4194303, 8388607] 2 ⟨[(8, vp 2 0), (9, vp 3 0), (10, vp 4 0)], [(2, bx 29 [ci v16.A, ci v16.B]), (3, bx 29 [ci v18.A, ci v18.B]), (4, bx 29 [ci v20.A, ci v20.B])]⟩ (o1 (And.intro (show 0 ≤ (0 : Int) ∧ (0 : Int) < ((4 : Nat) : Int) by decide) (And.intro (show 0 ≤ (3 : Int) ∧ (3 : Int) < ((4 : Nat) : Int) by decide) (And.intro (callS (K := (kx E 104 0)) ⟨[(46, vc (tl e_Point default a1)), (48, vi (a3.getD 0 default)), (50, vi (a3.getD 3 default))], []⟩ (opAt (rg Tryd.f11 30) 5) [] [] 2 o0 rfl (poly_Chord_ok a1 (a3.getD 0 default) (a3.getD 3 default) v16 h17) (.inl rfl) (by kernel_rfl)) (And.intro (show 0 ≤ (1 : Int) ∧ (1 : Int) < ((4 : Nat) : Int) by decide) (And.intro (show 0 ≤ (2 : Int) ∧ (2 : Int) < ((4 : Nat) : Int) by decide) (And.intro (callS (K := (kx E 104 0)) ⟨[(52, vc (tl e_Point default a1)), (54, vi (a3.getD 1 default)), (56, vi (a3.getD 2 default))], []⟩ (opAt (rg Tryd.f11 30) 11) [] [] 2 o0 rfl (poly_Chord_ok a1 (a3.getD 1 default) (a3.getD 2 default) v18 h19) (.inl rfl) (by kernel_rfl)) (And.intro (show 0 ≤ (0 : Int) ∧ (0 : Int) < ((4 : Nat) : Int) by decide) (And.intro (show 0 ≤ (3 : Int) ∧ (3 : Int) < ((4 : Nat) : Int) by decide) (callS (K := (kx E 104 0)) (xs' := [.one (.lst ((0 + a1.length) + a2.length) (rf e_Point ((([] : List Point) ++ a1) ++ a2))), .one (ci (a3.getD 0 default)), .one (ci (a3.getD 3 default))]) (b := false) ⟨[(58, vo 1 0 2 ((0 + a1.length) + a2.length)), (60, vi (a3.getD 0 default)), (62, vi (a3.getD 3 default))], [(1, ro 0 38 2 ((0 + a1.length) + a2.length) (rf e_Point ((([] : List Point) ++ a1) ++ a2)))]⟩ (opAt (rg Tryd.f11 30) 17) [] [] 2 (o1 (Nat.le_refl ((0 + a1.length) + a2.length))) (by simp only [tl, rf, show ((([] : List Point) ++ a1) ++ a2).length = ((0 + a1.length) + a2.length) from (len_app (len_app rfl rfl) rfl)]) (poly_Chord_ok ((([] : List Point) ++ a1) ++ a2) (a3.getD 0 default) (a3.getD 3 default) v20 h21) (.inr ⟨(by kernel_rfl), poly_Chord_f v20⟩) (by kernel_rfl))))))))))) (by kernel_rfl) (by kernel_rfl) ?_
      refine R_sq Tryd.f11 62 63 (by kernel_rfl) ?_
      refine R_sq Tryd.f11 124 125 (by kernel_rfl) ?_
      refine R_rn Tryd.f11 124 5 [] [] 5 ⟨[(8, vp 2 0), (9, vp 3 0), (10, vp 4 0), (68, vb (decide (v16.A ≥ v16.B)))], [(2, bx 29 [ci v16.A, ci v16.B]), (3, bx 29 [ci v18.A, ci v18.B]), (4, bx 29 [ci v20.A, ci v20.B])]⟩ o0 (by kernel_rfl) (by kernel_rfl) ?_
      refine R_cn Tryd.f11 (.tmp 68) 250 251 (by kernel_rfl) (decide (v16.A ≥ v16.B)) (by kernel_rfl) (fun b22 => ?_) (fun b22 => ?_)
      · replace hm := bif_t b22 hm
        refine R_join (ι := Bool) (nd Tryd.f11 500) (nd Tryd.f11 501) (by kernel_rfl) (fun p => law09_PolyWithin_k2_S p) (fun p => law09_PolyWithin_k2 p = some r) ?_ ?_
        · rintro x26 hm
          show H _ (law09_PolyWithin_k2_S x26) (nd Tryd.f11 501) _
          obtain rfl := Option.some.inj hm
          refine R_ret (by kernel_rfl) ?_
          exact ret_mk (by kernel_rfl) (by kernel_rfl)
        · rcases Bool.eq_false_or_eq_true ((v16.A == 0) && ((v16.B == 0) && true)) with b23 | b23
          · replace hm := bif_t b23 hm
            obtain ⟨v24, h25, hm⟩ := bind_s hm
            refine R_rn Tryd.f11 500 6 [(3, dfx true), (4, dex (cen [] [] 5 0 (law09_awake_x v24) (law09_awake_o v24) [72] []))] [] 5 ⟨[(6, vb v24)], []⟩ (o1 (And.intro b23 (callS (K := (kx E 104 0)) ⟨[(72, vb true)], []⟩ (opAt (rg Tryd.f11 500) 4) [] [] 5 o0 rfl (law09_awake_ok v24 h25) (.inl rfl) (by kernel_rfl)))) (by kernel_rfl) (by kernel_rfl) ?_
            exact J_mk (v24) hm (by kernel_rfl) (by kernel_rfl)
          · replace hm := bif_f b23 hm
            refine R_rn Tryd.f11 500 6 [(3, dfx false)] [] 5 ⟨[(6, vb false)], []⟩ (o1 b23) (by kernel_rfl) (by kernel_rfl) ?_
            exact J_mk (false) hm (by kernel_rfl) (by kernel_rfl)
      · replace hm := bif_f b22 hm
        refine R_skip (by kernel_rfl) ?_
        refine R_join (ι := Bool) (nd Tryd.f11 126) (nd Tryd.f11 127) (by kernel_rfl) (fun p => law09_PolyWithin_k3_S p) (fun p => law09_PolyWithin_k3 p = some r) ?_ ?_
        · rintro x33 hm
          show H _ (law09_PolyWithin_k3_S x33) (nd Tryd.f11 127) _
          obtain rfl := Option.some.inj hm
          refine R_ret (by kernel_rfl) ?_
          exact ret_mk (by kernel_rfl) (by kernel_rfl)
        · rcases Bool.eq_false_or_eq_true (decide (v18.A ≤ v16.A)) with b27 | b27
          · replace hm := bif_t b27 hm
            rcases Bool.eq_false_or_eq_true (decide (v16.B ≤ v18.B)) with b28 | b28
            · replace hm := bif_t b28 hm
              rcases Bool.eq_false_or_eq_true (decide (v20.A ≤ v16.A)) with b29 | b29
              · replace hm := bif_t b29 hm
                rcases Bool.eq_false_or_eq_true (decide (v16.B ≤ v20.B)) with b30 | b30
                · replace hm := bif_t b30 hm
                  obtain ⟨v31, h32, hm⟩ := bind_s hm
                  refine R_rn Tryd.f11 126 7 [(5, dfx true), (12, dfx true), (19, dfx true), (26, dfx true), (27, dex (cen [] [] 5 0 (law09_awake_x v31) (law09_awake_o v31) [101] []))] [] 5 ⟨[(6, vb v31)], []⟩ (o1 (And.intro b27 (And.intro b28 (And.intro b29 (And.intro b30 (callS (K := (kx E 104 0)) ⟨[(101, vb true)], []⟩ (opAt (rg Tryd.f11 126) 27) [] [] 5 o0 rfl (law09_awake_ok v31 h32) (.inl rfl) (by kernel_rfl))))))) (by kernel_rfl) (by kernel_rfl) ?_
                  exact J_mk (v31) hm (by kernel_rfl) (by kernel_rfl)
                · replace hm := bif_f b30 hm
                  refine R_rn Tryd.f11 126 7 [(5, dfx true), (12, dfx true), (19, dfx true), (26, dfx false)] [] 5 ⟨[(6, vb false)], []⟩ (o1 (And.intro b27 (And.intro b28 (And.intro b29 b30)))) (by kernel_rfl) (by kernel_rfl) ?_
                  exact J_mk (false) hm (by kernel_rfl) (by kernel_rfl)
              · replace hm := bif_f b29 hm
                refine R_rn Tryd.f11 126 7 [(5, dfx true), (12, dfx true), (19, dfx false)] [] 5 ⟨[(6, vb false)], []⟩ (o1 (And.intro b27 (And.intro b28 b29))) (by kernel_rfl) (by kernel_rfl) ?_
                exact J_mk (false) hm (by kernel_rfl) (by kernel_rfl)
            · replace hm := bif_f b28 hm
              refine R_rn Tryd.f11 126 7 [(5, dfx true), (12, dfx false)] [] 5 ⟨[(6, vb false)], []⟩ (o1 (And.intro b27 b28)) (by kernel_rfl) (by kernel_rfl) ?_
              exact J_mk (false) hm (by kernel_rfl) (by kernel_rfl)
          · replace hm := bif_f b27 hm
            refine R_rn Tryd.f11 126 7 [(5, dfx false)] [] 5 ⟨[(6, vb false)], []⟩ (o1 b27) (by kernel_rfl) (by kernel_rfl) ?_
            exact J_mk (false) hm (by kernel_rfl) (by kernel_rfl)
  · rcases Bool.eq_false_or_eq_true (decide (((((0 + a1.length) + a2.length) : Nat) : Int) > 32)) with b6 | b6
    · replace hm := bif_t b6 hm
      refine R_rn Tryd.f11 28 2 [(3, dfx true)] [] 2 ⟨[(0, vc (tl e_Point default a1)), (5, vp 0 0), (7, vo 1 2 2 ((0 + a1.length) + a2.length)), (44, vb true)], [(0, bx 49 [ci (a3.getD 0 default), ci (a3.getD 1 default), ci (a3.getD 2 default), ci (a3.getD 3 default)]), (1, ro 2 38 2 ((0 + a1.length) + a2.length) (rf e_Point ((([] : List Point) ++ a1) ++ a2)))]⟩ (o1 b6) (by kernel_rfl) (by kernel_rfl) ?_
      exact J_mk (true) hm (by kernel_rfl) (by kernel_rfl)
    · replace hm := bif_f b6 hm
      obtain ⟨v7, h8, hm⟩ := bind_s hm
      rcases Bool.eq_false_or_eq_true (!v7) with b9 | b9
      · replace hm := bif_t b9 hm
        refine R_rn Tryd.f11 28 2 [(3, dfx false), (5, dex (cen [] [] 2 0 (ref09_Ranged_x v7) (ref09_Ranged_o v7) [19, 20] [1])), (8, dfx true)] [] 2 ⟨[(0, vc (tl e_Point default a1)), (5, vp 0 0), (7, vo 1 2 2 ((0 + a1.length) + a2.length)), (44, vb true)], [(0, bx 49 [ci (a3.getD 0 default), ci (a3.getD 1 default), ci (a3.getD 2 default), ci (a3.getD 3 default)]), (1, ro 2 38 2 ((0 + a1.length) + a2.length) (rf e_Point ((([] : List Point) ++ a1) ++ a2)))]⟩ (o1 (And.intro b6 (And.intro (callS (K := (kx E 104 0)) (xs' := [.one (.lst ((0 + a1.length) + a2.length) (rf e_Point ((([] : List Point) ++ a1) ++ a2)))]) (b := false) ⟨[(19, vb false), (20, vo 1 2 2 ((0 + a1.length) + a2.length))], [(1, ro 2 38 2 ((0 + a1.length) + a2.length) (rf e_Point ((([] : List Point) ++ a1) ++ a2)))]⟩ (opAt (rg Tryd.f11 28) 5) [] [] 2 (o1 (Nat.le_refl ((0 + a1.length) + a2.length))) (by simp only [tl, rf, show ((([] : List Point) ++ a1) ++ a2).length = ((0 + a1.length) + a2.length) from (len_app (len_app rfl rfl) rfl)]) (ref09_Ranged_ok ((([] : List Point) ++ a1) ++ a2) v7 h8) (.inr ⟨(by kernel_rfl), ref09_Ranged_f v7⟩) (by kernel_rfl)) b9))) (by kernel_rfl) (by kernel_rfl) ?_
        exact J_mk (true) hm (by kernel_rfl) (by kernel_rfl)
      · replace hm := bif_f b9 hm
        rcases Bool.eq_false_or_eq_true (decide ((a3.getD 0 default) > (a3.getD 1 default))) with b10 | b10
        · replace hm := bif_t b10 hm
          refine R_rn Tryd.f11 28 2 [(3, dfx false), (5, dex (cen [] [] 2 0 (ref09_Ranged_x v7) (ref09_Ranged_o v7) [19, 20] [1])), (8, dfx false), (15, dfx true)] [] 2 ⟨[(0, vc (tl e_Point default a1)), (5, vp 0 0), (7, vo 1 2 2 ((0 + a1.length) + a2.length)), (44, vb true)], [(0, bx 49 [ci (a3.getD 0 default), ci (a3.getD 1 default), ci (a3.getD 2 default), ci (a3.getD 3 default)]), (1, ro 2 38 2 ((0 + a1.length) + a2.length) (rf e_Point ((([] : List Point) ++ a1) ++ a2)))]⟩ (o1 (And.intro b6 (And.intro (callS (K := (kx E 104 0)) (xs' := [.one (.lst ((0 + a1.length) + a2.length) (rf e_Point ((([] : List Point) ++ a1) ++ a2)))]) (b := false) ⟨[(19, vb false), (20, vo 1 2 2 ((0 + a1.length) + a2.length))], [(1, ro 2 38 2 ((0 + a1.length) + a2.length) (rf e_Point ((([] : List Point) ++ a1) ++ a2)))]⟩ (opAt (rg Tryd.f11 28) 5) [] [] 2 (o1 (Nat.le_refl ((0 + a1.length) + a2.length))) (by simp only [tl, rf, show ((([] : List Point) ++ a1) ++ a2).length = ((0 + a1.length) + a2.length) from (len_app (len_app rfl rfl) rfl)]) (ref09_Ranged_ok ((([] : List Point) ++ a1) ++ a2) v7 h8) (.inr ⟨(by kernel_rfl), ref09_Ranged_f v7⟩) (by kernel_rfl)) (And.intro b9 (And.intro (show 0 ≤ (0 : Int) ∧ (0 : Int) < ((4 : Nat) : Int) by decide) (And.intro (show 0 ≤ (1 : Int) ∧ (1 : Int) < ((4 : Nat) : Int) by decide) b10)))))) (by kernel_rfl) (by kernel_rfl) ?_
          exact J_mk (true) hm (by kernel_rfl) (by kernel_rfl)
        · replace hm := bif_f b10 hm
          rcases Bool.eq_false_or_eq_true (decide ((a3.getD 1 default) ≥ (a3.getD 2 default))) with b11 | b11
          · replace hm := bif_t b11 hm
            refine R_rn Tryd.f11 28 2 [(3, dfx false), (5, dex (cen [] [] 2 0 (ref09_Ranged_x v7) (ref09_Ranged_o v7) [19, 20] [1])), (8, dfx false), (15, dfx false), (22, dfx true)] [] 2 ⟨[(0, vc (tl e_Point default a1)), (5, vp 0 0), (7, vo 1 2 2 ((0 + a1.length) + a2.length)), (44, vb true)], [(0, bx 49 [ci (a3.getD 0 default), ci (a3.getD 1 default), ci (a3.getD 2 default), ci (a3.getD 3 default)]), (1, ro 2 38 2 ((0 + a1.length) + a2.length) (rf e_Point ((([] : List Point) ++ a1) ++ a2)))]⟩ (o1 (And.intro b6 (And.intro (callS (K := (kx E 104 0)) (xs' := [.one (.lst ((0 + a1.length) + a2.length) (rf e_Point ((([] : List Point) ++ a1) ++ a2)))]) (b := false) ⟨[(19, vb false), (20, vo 1 2 2 ((0 + a1.length) + a2.length))], [(1, ro 2 38 2 ((0 + a1.length) + a2.length) (rf e_Point ((([] : List Point) ++ a1) ++ a2)))]⟩ (opAt (rg Tryd.f11 28) 5) [] [] 2 (o1 (Nat.le_refl ((0 + a1.length) + a2.length))) (by simp only [tl, rf, show ((([] : List Point) ++ a1) ++ a2).length = ((0 + a1.length) + a2.length) from (len_app (len_app rfl rfl) rfl)]) (ref09_Ranged_ok ((([] : List Point) ++ a1) ++ a2) v7 h8) (.inr ⟨(by kernel_rfl), ref09_Ranged_f v7⟩) (by kernel_rfl)) (And.intro b9 (And.intro (show 0 ≤ (0 : Int) ∧ (0 : Int) < ((4 : Nat) : Int) by decide) (And.intro (show 0 ≤ (1 : Int) ∧ (1 : Int) < ((4 : Nat) : Int) by decide) (And.intro b10 (And.intro (show 0 ≤ (1 : Int) ∧ (1 : Int) < ((4 : Nat) : Int) by decide) (And.intro (show 0 ≤ (2 : Int) ∧ (2 : Int) < ((4 : Nat) : Int) by decide) b11))))))))) (by kernel_rfl) (by kernel_rfl) ?_
            exact J_mk (true) hm (by kernel_rfl) (by kernel_rfl)
          · replace hm := bif_f b11 hm
            refine R_rn Tryd.f11 28 2 [(3, dfx false), (5, dex (cen [] [] 2 0 (ref09_Ranged_x v7) (ref09_Ranged_o v7) [19, 20] [1])), (8, dfx false), (15, dfx false), (22, dfx false)] [] 2 ⟨[(0, vc (tl e_Point default a1)), (5, vp 0 0), (7, vo 1 2 2 ((0 + a1.length) + a2.length)), (44, vb (decide ((a3.getD 2 default) > (a3.getD 3 default))))], [(0, bx 49 [ci (a3.getD 0 default), ci (a3.getD 1 default), ci (a3.getD 2 default), ci (a3.getD 3 default)]), (1, ro 2 38 2 ((0 + a1.length) + a2.length) (rf e_Point ((([] : List Point) ++ a1) ++ a2)))]⟩ (o1 (And.intro b6 (And.intro (callS (K := (kx E 104 0)) (xs' := [.one (.lst ((0 + a1.length) + a2.length) (rf e_Point ((([] : List Point) ++ a1) ++ a2)))]) (b := false) ⟨[(19, vb false), (20, vo 1 2 2 ((0 + a1.length) + a2.length))], [(1, ro 2 38 2 ((0 + a1.length) + a2.length) (rf e_Point ((([] : List Point) ++ a1) ++ a2)))]⟩ (opAt (rg Tryd.f11 28) 5) [] [] 2 (o1 (Nat.le_refl ((0 + a1.length) + a2.length))) (by simp only [tl, rf, show ((([] : List Point) ++ a1) ++ a2).length = ((0 + a1.length) + a2.length) from (len_app (len_app rfl rfl) rfl)]) (ref09_Ranged_ok ((([] : List Point) ++ a1) ++ a2) v7 h8) (.inr ⟨(by kernel_rfl), ref09_Ranged_f v7⟩) (by kernel_rfl)) (And.intro b9 (And.intro (show 0 ≤ (0 : Int) ∧ (0 : Int) < ((4 : Nat) : Int) by decide) (And.intro (show 0 ≤ (1 : Int) ∧ (1 : Int) < ((4 : Nat) : Int) by decide) (And.intro b10 (And.intro (show 0 ≤ (1 : Int) ∧ (1 : Int) < ((4 : Nat) : Int) by decide) (And.intro (show 0 ≤ (2 : Int) ∧ (2 : Int) < ((4 : Nat) : Int) by decide) (And.intro b11 (And.intro (show 0 ≤ (2 : Int) ∧ (2 : Int) < ((4 : Nat) : Int) by decide) (show 0 ≤ (3 : Int) ∧ (3 : Int) < ((4 : Nat) : Int) by decide)))))))))))) (by kernel_rfl) (by kernel_rfl) ?_
            exact J_mk (decide ((a3.getD 2 default) > (a3.getD 3 default))) hm (by kernel_rfl) (by kernel_rfl)

end Saw
end Go.SL
