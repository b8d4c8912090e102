import Derived.Test.YtcppgjcniljkcaaDoorPBase
import Derived.Test.YtcppgjcniljkcaaDoorPLs
import Derived.Test.YtcppgjcniljkcaaDoorPFa2
set_option linter.unusedVariables false
set_option linter.unusedSimpArgs false
namespace Go.SL
namespace Saw
open Go.Proofs
set_option maxHeartbeats 4000000

def law09_inside_x (r : Bool) : V := vb r

def law09_inside_o (r : Bool) : List (Nat × (Nat × O)) := []

theorem law09_inside_f (r : Bool) : Frozen (law09_inside_o r) := by
  intro i k o h
  unfold law09_inside_o at h
  cases h

def law09_inside_k1_S (x25 : Bool) : St :=
  ⟨[(10, vb x25)], []⟩

set_option maxRecDepth 100000 in
theorem law09_inside_ok (a1 : List Point) (a2 : Int) (a3 : Int) (a4 : Int) (a5 : Int) (r : Bool) (hm : law09_inside a1 a2 a3 a4 a5 = some r) : CtX Tryd.prog globs 35 0 0 [.one (tl e_Point default a1), .one (ci a2), .one (ci a3), .one (ci a4), .one (ci a5)] [] (law09_inside_x r) (law09_inside_o r) := by
  unfold law09_inside at hm
  refine CtX_of_E (fn := Tryd.f35) (c := nd Tryd.f35 1) (nt := 37) (by kernel_rfl) (by kernel_rfl) (by kernel_rfl) (by kernel_rfl) fun E => ?_
  refine R_sq Tryd.f35 2 3 (by kernel_rfl) ?_
  refine R_rn Tryd.f35 2 0 [] [] 0 ⟨[(0, vc (tl e_Point default a1)), (1, vi a2), (2, vi a3), (3, vi a4), (4, vi a5)], []⟩ o0 (by kernel_rfl) (by kernel_rfl) ?_
  refine R_join (ι := Bool) (nd Tryd.f35 6) (nd Tryd.f35 7) (by kernel_rfl) (fun p => law09_inside_k1_S p) (fun p => law09_inside_k1 p = some r) ?_ ?_
  · rintro x25 hm
    show H _ (law09_inside_k1_S x25) (nd Tryd.f35 7) _
    obtain rfl := Option.some.inj hm
    refine R_ret (by kernel_rfl) ?_
    exact ret_mk (by kernel_rfl) (by kernel_rfl)
  · obtain ⟨v6, h7, hm⟩ := bind_s hm
    obtain ⟨v8, h9, hm⟩ := bind_s hm
    rcases Bool.eq_false_or_eq_true v8 with b10 | b10
    · replace hm := bif_t b10 hm
      obtain ⟨v11, h12, hm⟩ := bind_s hm
      obtain ⟨v13, h14, hm⟩ := bind_s hm
      rcases Bool.eq_false_or_eq_true v13 with b15 | b15
      · replace hm := bif_t b15 hm
        obtain ⟨v16, h17, hm⟩ := bind_s hm
        obtain ⟨v18, h19, hm⟩ := bind_s hm
        rcases Bool.eq_false_or_eq_true v18 with b20 | b20
        · replace hm := bif_t b20 hm
          obtain ⟨v21, h22, hm⟩ := bind_s hm
          obtain ⟨v23, h24, hm⟩ := bind_s hm
          refine R_rn Tryd.f35 6 1 [(3, dex (cen [] [] 0 0 (law09_pt_x v6) (law09_pt_o v6) [12, 13] [])), (4, dex (cen [] [] 0 0 (poly_Has_x v8) (poly_Has_o v8) [11, 14] [])), (5, dfx true), (9, dex (cen [] [] 0 0 (law09_pt_x v11) (law09_pt_o v11) [16, 18, 19] [])), (10, dex (cen [] [] 0 0 (poly_Has_x v13) (poly_Has_o v13) [16, 17, 20] [])), (12, dfx true), (16, dex (cen [] [] 0 0 (law09_pt_x v16) (law09_pt_o v16) [23, 25, 26] [])), (17, dex (cen [] [] 0 0 (poly_Has_x v18) (poly_Has_o v18) [23, 24, 27] [])), (19, dfx true), (23, dex (cen [] [] 0 0 (law09_pt_x v21) (law09_pt_o v21) [30, 32, 33] [])), (24, dex (cen [] [] 0 0 (poly_Has_x v23) (poly_Has_o v23) [30, 31, 34] []))] [] 0 ⟨[(10, vb v23)], []⟩ (o1 (And.intro (callS (K := (kx E 37 0)) ⟨[(12, vi a2), (13, vi a4)], []⟩ (opAt (rg Tryd.f35 6) 3) [] [] 0 o0 rfl (law09_pt_ok a2 a4 v6 h7) (.inl rfl) (by kernel_rfl)) (And.intro (callS (K := (kx E 37 0)) ⟨[(11, vc (tl e_Point default a1)), (14, va [ci v6.X, ci v6.Y])], []⟩ (opAt (rg Tryd.f35 6) 4) [] [] 0 o0 rfl (poly_Has_ok a1 v6 v8 h9) (.inl rfl) (by kernel_rfl)) (And.intro b10 (And.intro (callS (K := (kx E 37 0)) ⟨[(16, vb true), (18, vi a2), (19, vi a5)], []⟩ (opAt (rg Tryd.f35 6) 9) [] [] 0 o0 rfl (law09_pt_ok a2 a5 v11 h12) (.inl rfl) (by kernel_rfl)) (And.intro (callS (K := (kx E 37 0)) ⟨[(16, vb true), (17, vc (tl e_Point default a1)), (20, va [ci v11.X, ci v11.Y])], []⟩ (opAt (rg Tryd.f35 6) 10) [] [] 0 o0 rfl (poly_Has_ok a1 v11 v13 h14) (.inl rfl) (by kernel_rfl)) (And.intro b15 (And.intro (callS (K := (kx E 37 0)) ⟨[(23, vb true), (25, vi a3), (26, vi a4)], []⟩ (opAt (rg Tryd.f35 6) 16) [] [] 0 o0 rfl (law09_pt_ok a3 a4 v16 h17) (.inl rfl) (by kernel_rfl)) (And.intro (callS (K := (kx E 37 0)) ⟨[(23, vb true), (24, vc (tl e_Point default a1)), (27, va [ci v16.X, ci v16.Y])], []⟩ (opAt (rg Tryd.f35 6) 17) [] [] 0 o0 rfl (poly_Has_ok a1 v16 v18 h19) (.inl rfl) (by kernel_rfl)) (And.intro b20 (And.intro (callS (K := (kx E 37 0)) ⟨[(30, vb true), (32, vi a3), (33, vi a5)], []⟩ (opAt (rg Tryd.f35 6) 23) [] [] 0 o0 rfl (law09_pt_ok a3 a5 v21 h22) (.inl rfl) (by kernel_rfl)) (callS (K := (kx E 37 0)) ⟨[(30, vb true), (31, vc (tl e_Point default a1)), (34, va [ci v21.X, ci v21.Y])], []⟩ (opAt (rg Tryd.f35 6) 24) [] [] 0 o0 rfl (poly_Has_ok a1 v21 v23 h24) (.inl rfl) (by kernel_rfl))))))))))))) (by kernel_rfl) (by kernel_rfl) ?_
          exact J_mk (v23) hm (by kernel_rfl) (by kernel_rfl)
        · replace hm := bif_f b20 hm
          refine R_rn Tryd.f35 6 1 [(3, dex (cen [] [] 0 0 (law09_pt_x v6) (law09_pt_o v6) [12, 13] [])), (4, dex (cen [] [] 0 0 (poly_Has_x v8) (poly_Has_o v8) [11, 14] [])), (5, dfx true), (9, dex (cen [] [] 0 0 (law09_pt_x v11) (law09_pt_o v11) [16, 18, 19] [])), (10, dex (cen [] [] 0 0 (poly_Has_x v13) (poly_Has_o v13) [16, 17, 20] [])), (12, dfx true), (16, dex (cen [] [] 0 0 (law09_pt_x v16) (law09_pt_o v16) [23, 25, 26] [])), (17, dex (cen [] [] 0 0 (poly_Has_x v18) (poly_Has_o v18) [23, 24, 27] [])), (19, dfx false)] [] 0 ⟨[(10, vb false)], []⟩ (o1 (And.intro (callS (K := (kx E 37 0)) ⟨[(12, vi a2), (13, vi a4)], []⟩ (opAt (rg Tryd.f35 6) 3) [] [] 0 o0 rfl (law09_pt_ok a2 a4 v6 h7) (.inl rfl) (by kernel_rfl)) (And.intro (callS (K := (kx E 37 0)) ⟨[(11, vc (tl e_Point default a1)), (14, va [ci v6.X, ci v6.Y])], []⟩ (opAt (rg Tryd.f35 6) 4) [] [] 0 o0 rfl (poly_Has_ok a1 v6 v8 h9) (.inl rfl) (by kernel_rfl)) (And.intro b10 (And.intro (callS (K := (kx E 37 0)) ⟨[(16, vb true), (18, vi a2), (19, vi a5)], []⟩ (opAt (rg Tryd.f35 6) 9) [] [] 0 o0 rfl (law09_pt_ok a2 a5 v11 h12) (.inl rfl) (by kernel_rfl)) (And.intro (callS (K := (kx E 37 0)) ⟨[(16, vb true), (17, vc (tl e_Point default a1)), (20, va [ci v11.X, ci v11.Y])], []⟩ (opAt (rg Tryd.f35 6) 10) [] [] 0 o0 rfl (poly_Has_ok a1 v11 v13 h14) (.inl rfl) (by kernel_rfl)) (And.intro b15 (And.intro (callS (K := (kx E 37 0)) ⟨[(23, vb true), (25, vi a3), (26, vi a4)], []⟩ (opAt (rg Tryd.f35 6) 16) [] [] 0 o0 rfl (law09_pt_ok a3 a4 v16 h17) (.inl rfl) (by kernel_rfl)) (And.intro (callS (K := (kx E 37 0)) ⟨[(23, vb true), (24, vc (tl e_Point default a1)), (27, va [ci v16.X, ci v16.Y])], []⟩ (opAt (rg Tryd.f35 6) 17) [] [] 0 o0 rfl (poly_Has_ok a1 v16 v18 h19) (.inl rfl) (by kernel_rfl)) b20))))))))) (by kernel_rfl) (by kernel_rfl) ?_
          exact J_mk (false) hm (by kernel_rfl) (by kernel_rfl)
      · replace hm := bif_f b15 hm
        refine R_rn Tryd.f35 6 1 [(3, dex (cen [] [] 0 0 (law09_pt_x v6) (law09_pt_o v6) [12, 13] [])), (4, dex (cen [] [] 0 0 (poly_Has_x v8) (poly_Has_o v8) [11, 14] [])), (5, dfx true), (9, dex (cen [] [] 0 0 (law09_pt_x v11) (law09_pt_o v11) [16, 18, 19] [])), (10, dex (cen [] [] 0 0 (poly_Has_x v13) (poly_Has_o v13) [16, 17, 20] [])), (12, dfx false)] [] 0 ⟨[(10, vb false)], []⟩ (o1 (And.intro (callS (K := (kx E 37 0)) ⟨[(12, vi a2), (13, vi a4)], []⟩ (opAt (rg Tryd.f35 6) 3) [] [] 0 o0 rfl (law09_pt_ok a2 a4 v6 h7) (.inl rfl) (by kernel_rfl)) (And.intro (callS (K := (kx E 37 0)) ⟨[(11, vc (tl e_Point default a1)), (14, va [ci v6.X, ci v6.Y])], []⟩ (opAt (rg Tryd.f35 6) 4) [] [] 0 o0 rfl (poly_Has_ok a1 v6 v8 h9) (.inl rfl) (by kernel_rfl)) (And.intro b10 (And.intro (callS (K := (kx E 37 0)) ⟨[(16, vb true), (18, vi a2), (19, vi a5)], []⟩ (opAt (rg Tryd.f35 6) 9) [] [] 0 o0 rfl (law09_pt_ok a2 a5 v11 h12) (.inl rfl) (by kernel_rfl)) (And.intro (callS (K := (kx E 37 0)) ⟨[(16, vb true), (17, vc (tl e_Point default a1)), (20, va [ci v11.X, ci v11.Y])], []⟩ (opAt (rg Tryd.f35 6) 10) [] [] 0 o0 rfl (poly_Has_ok a1 v11 v13 h14) (.inl rfl) (by kernel_rfl)) b15)))))) (by kernel_rfl) (by kernel_rfl) ?_
        exact J_mk (false) hm (by kernel_rfl) (by kernel_rfl)
    · replace hm := bif_f b10 hm
      refine R_rn Tryd.f35 6 1 [(3, dex (cen [] [] 0 0 (law09_pt_x v6) (law09_pt_o v6) [12, 13] [])), (4, dex (cen [] [] 0 0 (poly_Has_x v8) (poly_Has_o v8) [11, 14] [])), (5, dfx false)] [] 0 ⟨[(10, vb false)], []⟩ (o1 (And.intro (callS (K := (kx E 37 0)) ⟨[(12, vi a2), (13, vi a4)], []⟩ (opAt (rg Tryd.f35 6) 3) [] [] 0 o0 rfl (law09_pt_ok a2 a4 v6 h7) (.inl rfl) (by kernel_rfl)) (And.intro (callS (K := (kx E 37 0)) ⟨[(11, vc (tl e_Point default a1)), (14, va [ci v6.X, ci v6.Y])], []⟩ (opAt (rg Tryd.f35 6) 4) [] [] 0 o0 rfl (poly_Has_ok a1 v6 v8 h9) (.inl rfl) (by kernel_rfl)) b10))) (by kernel_rfl) (by kernel_rfl) ?_
      exact J_mk (false) hm (by kernel_rfl) (by kernel_rfl)

end Saw
end Go.SL
