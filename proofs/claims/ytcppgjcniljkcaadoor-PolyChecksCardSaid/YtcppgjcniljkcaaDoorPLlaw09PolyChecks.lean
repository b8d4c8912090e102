import Derived.Test.YtcppgjcniljkcaaDoorPBase
import Derived.Test.YtcppgjcniljkcaaDoorPLs
import Derived.Test.YtcppgjcniljkcaaDoorPLlaw09awake
import Derived.Test.YtcppgjcniljkcaaDoorPFa1
import Derived.Test.YtcppgjcniljkcaaDoorPFa4
set_option linter.unusedVariables false
set_option linter.unusedSimpArgs false
namespace Go.SL
namespace Saw
open Go.Proofs
set_option maxHeartbeats 4000000

def law09_PolyChecks_x (r : Bool) : V := vb r

def law09_PolyChecks_o (r : Bool) : List (Nat × (Nat × O)) := []

theorem law09_PolyChecks_f (r : Bool) : Frozen (law09_PolyChecks_o r) := by
  intro i k o h
  unfold law09_PolyChecks_o at h
  cases h

def law09_PolyChecks_k1_S (x24 : Bool) : St :=
  ⟨[(2, vb x24)], []⟩

set_option maxRecDepth 100000 in
theorem law09_PolyChecks_ok (a1 : List Point) (r : Bool) (hm : law09_PolyChecks a1 = some r) : CtX Tryd.prog globs 3 0 0 [.one (tl e_Point default a1)] [] (law09_PolyChecks_x r) (law09_PolyChecks_o r) := by
  unfold law09_PolyChecks at hm
  refine CtX_of_E (fn := Tryd.f3) (c := nd Tryd.f3 1) (nt := 29) (by kernel_rfl) (by kernel_rfl) (by kernel_rfl) (by kernel_rfl) fun E => ?_
  refine R_sq Tryd.f3 2 3 (by kernel_rfl) ?_
  refine R_rn Tryd.f3 2 0 [] [] 0 ⟨[(0, vc (tl e_Point default a1))], []⟩ o0 (by kernel_rfl) (by kernel_rfl) ?_
  refine R_sq Tryd.f3 6 7 (by kernel_rfl) ?_
  refine R_sq Tryd.f3 12 13 (by kernel_rfl) ?_
  obtain ⟨v2, h3, hm⟩ := bind_s hm
  refine R_rn Tryd.f3 12 1 [(1, dex (cen [] [] 0 0 (law09_few_x v2) (law09_few_o v2) [3] []))] [] 0 ⟨[(0, vc (tl e_Point default a1)), (5, vb (!v2))], []⟩ (o1 (callS (K := (kx E 29 0)) ⟨[(3, vc (tl e_Point default a1))], []⟩ (opAt (rg Tryd.f3 12) 1) [] [] 0 o0 rfl (law09_few_ok a1 v2 h3) (.inl rfl) (by kernel_rfl))) (by kernel_rfl) (by kernel_rfl) ?_
  refine R_cn Tryd.f3 (.tmp 5) 26 27 (by kernel_rfl) (!v2) (by kernel_rfl) (fun b4 => ?_) (fun b4 => ?_)
  · replace hm := bif_t b4 hm
    refine R_sq Tryd.f3 52 53 (by kernel_rfl) ?_
    obtain ⟨v5, h6, hm⟩ := bind_s hm
    refine R_rn Tryd.f3 52 2 [(0, dex (cen [] [] 0 0 (law09_awake_x v5) (law09_awake_o v5) [] []))] [] 0 ⟨[(2, vb v5)], []⟩ (o1 (callS (K := (kx E 29 0)) ⟨[], []⟩ (opAt (rg Tryd.f3 52) 0) [] [] 0 o0 rfl (law09_awake_ok v5 h6) (.inl rfl) (by kernel_rfl))) (by kernel_rfl) (by kernel_rfl) ?_
    obtain rfl := Option.some.inj hm
    refine R_ret (by kernel_rfl) ?_
    exact ret_mk (by kernel_rfl) (by kernel_rfl)
  · replace hm := bif_f b4 hm
    refine R_skip (by kernel_rfl) ?_
    refine R_join (ι := Bool) (nd Tryd.f3 14) (nd Tryd.f3 15) (by kernel_rfl) (fun p => law09_PolyChecks_k1_S p) (fun p => law09_PolyChecks_k1 p = some r) ?_ ?_
    · rintro x24 hm
      show H _ (law09_PolyChecks_k1_S x24) (nd Tryd.f3 15) _
      obtain rfl := Option.some.inj hm
      refine R_ret (by kernel_rfl) ?_
      exact ret_mk (by kernel_rfl) (by kernel_rfl)
    · obtain ⟨v7, h8, hm⟩ := bind_s hm
      obtain ⟨v9, h10, hm⟩ := bind_s hm
      rcases Bool.eq_false_or_eq_true (v7 == v9) with b11 | b11
      · replace hm := bif_t b11 hm
        obtain ⟨v12, h13, hm⟩ := bind_s hm
        obtain ⟨v14, h15, hm⟩ := bind_s hm
        rcases Bool.eq_false_or_eq_true (v12 == v14) with b16 | b16
        · replace hm := bif_t b16 hm
          obtain ⟨v17, h18, hm⟩ := bind_s hm
          obtain ⟨v19, h20, hm⟩ := bind_s hm
          rcases Bool.eq_false_or_eq_true (((v17.X.A == v19.X.A) && ((v17.X.B == v19.X.B) && true)) && (((v17.Y.A == v19.Y.A) && ((v17.Y.B == v19.Y.B) && true)) && true)) with b21 | b21
          · replace hm := bif_t b21 hm
            obtain ⟨v22, h23, hm⟩ := bind_s hm
            refine R_rn Tryd.f3 14 3 [(1, dex (cen [] [] 0 0 (poly_Check_x v7) (poly_Check_o v7) [7] [])), (3, dex (cen [] [] 0 0 (ref09_Check_x v9) (ref09_Check_o v9) [9] [])), (5, dfx true), (7, dex (cen [] [] 0 0 (poly_Area2_x v12) (poly_Area2_o v12) [12, 13] [])), (9, dex (cen [] [] 0 0 (ref09_Area2_x v14) (ref09_Area2_o v14) [12, 15] [])), (12, dfx true), (14, dex (cen [] [] 0 0 (poly_Bounds_x v17) (poly_Bounds_o v17) [19, 20] [])), (16, dex (cen [] [] 0 0 (ref09_Bounds_x v19) (ref09_Bounds_o v19) [19, 22] [])), (19, dfx true), (20, dex (cen [] [] 0 0 (law09_awake_x v22) (law09_awake_o v22) [26] []))] [] 0 ⟨[(2, vb v22)], []⟩ (o1 (And.intro (callS (K := (kx E 29 0)) ⟨[(7, vc (tl e_Point default a1))], []⟩ (opAt (rg Tryd.f3 14) 1) [] [] 0 o0 rfl (poly_Check_ok a1 v7 h8) (.inl rfl) (by kernel_rfl)) (And.intro (callS (K := (kx E 29 0)) ⟨[(9, vc (tl e_Point default a1))], []⟩ (opAt (rg Tryd.f3 14) 3) [] [] 0 o0 rfl (ref09_Check_ok a1 v9 h10) (.inl rfl) (by kernel_rfl)) (And.intro b11 (And.intro (callS (K := (kx E 29 0)) ⟨[(12, vb true), (13, vc (tl e_Point default a1))], []⟩ (opAt (rg Tryd.f3 14) 7) [] [] 0 o0 rfl (poly_Area2_ok a1 v12 h13) (.inl rfl) (by kernel_rfl)) (And.intro (callS (K := (kx E 29 0)) ⟨[(12, vb true), (15, vc (tl e_Point default a1))], []⟩ (opAt (rg Tryd.f3 14) 9) [] [] 0 o0 rfl (ref09_Area2_ok a1 v14 h15) (.inl rfl) (by kernel_rfl)) (And.intro b16 (And.intro (callS (K := (kx E 29 0)) ⟨[(19, vb true), (20, vc (tl e_Point default a1))], []⟩ (opAt (rg Tryd.f3 14) 14) [] [] 0 o0 rfl (poly_Bounds_ok a1 v17 h18) (.inl rfl) (by kernel_rfl)) (And.intro (callS (K := (kx E 29 0)) ⟨[(19, vb true), (22, vc (tl e_Point default a1))], []⟩ (opAt (rg Tryd.f3 14) 16) [] [] 0 o0 rfl (ref09_Bounds_ok a1 v19 h20) (.inl rfl) (by kernel_rfl)) (And.intro b21 (callS (K := (kx E 29 0)) ⟨[(26, vb true)], []⟩ (opAt (rg Tryd.f3 14) 20) [] [] 0 o0 rfl (law09_awake_ok v22 h23) (.inl rfl) (by kernel_rfl)))))))))))) (by kernel_rfl) (by kernel_rfl) ?_
            exact J_mk (v22) hm (by kernel_rfl) (by kernel_rfl)
          · replace hm := bif_f b21 hm
            refine R_rn Tryd.f3 14 3 [(1, dex (cen [] [] 0 0 (poly_Check_x v7) (poly_Check_o v7) [7] [])), (3, dex (cen [] [] 0 0 (ref09_Check_x v9) (ref09_Check_o v9) [9] [])), (5, dfx true), (7, dex (cen [] [] 0 0 (poly_Area2_x v12) (poly_Area2_o v12) [12, 13] [])), (9, dex (cen [] [] 0 0 (ref09_Area2_x v14) (ref09_Area2_o v14) [12, 15] [])), (12, dfx true), (14, dex (cen [] [] 0 0 (poly_Bounds_x v17) (poly_Bounds_o v17) [19, 20] [])), (16, dex (cen [] [] 0 0 (ref09_Bounds_x v19) (ref09_Bounds_o v19) [19, 22] [])), (19, dfx false)] [] 0 ⟨[(2, vb false)], []⟩ (o1 (And.intro (callS (K := (kx E 29 0)) ⟨[(7, vc (tl e_Point default a1))], []⟩ (opAt (rg Tryd.f3 14) 1) [] [] 0 o0 rfl (poly_Check_ok a1 v7 h8) (.inl rfl) (by kernel_rfl)) (And.intro (callS (K := (kx E 29 0)) ⟨[(9, vc (tl e_Point default a1))], []⟩ (opAt (rg Tryd.f3 14) 3) [] [] 0 o0 rfl (ref09_Check_ok a1 v9 h10) (.inl rfl) (by kernel_rfl)) (And.intro b11 (And.intro (callS (K := (kx E 29 0)) ⟨[(12, vb true), (13, vc (tl e_Point default a1))], []⟩ (opAt (rg Tryd.f3 14) 7) [] [] 0 o0 rfl (poly_Area2_ok a1 v12 h13) (.inl rfl) (by kernel_rfl)) (And.intro (callS (K := (kx E 29 0)) ⟨[(12, vb true), (15, vc (tl e_Point default a1))], []⟩ (opAt (rg Tryd.f3 14) 9) [] [] 0 o0 rfl (ref09_Area2_ok a1 v14 h15) (.inl rfl) (by kernel_rfl)) (And.intro b16 (And.intro (callS (K := (kx E 29 0)) ⟨[(19, vb true), (20, vc (tl e_Point default a1))], []⟩ (opAt (rg Tryd.f3 14) 14) [] [] 0 o0 rfl (poly_Bounds_ok a1 v17 h18) (.inl rfl) (by kernel_rfl)) (And.intro (callS (K := (kx E 29 0)) ⟨[(19, vb true), (22, vc (tl e_Point default a1))], []⟩ (opAt (rg Tryd.f3 14) 16) [] [] 0 o0 rfl (ref09_Bounds_ok a1 v19 h20) (.inl rfl) (by kernel_rfl)) b21))))))))) (by kernel_rfl) (by kernel_rfl) ?_
            exact J_mk (false) hm (by kernel_rfl) (by kernel_rfl)
        · replace hm := bif_f b16 hm
          refine R_rn Tryd.f3 14 3 [(1, dex (cen [] [] 0 0 (poly_Check_x v7) (poly_Check_o v7) [7] [])), (3, dex (cen [] [] 0 0 (ref09_Check_x v9) (ref09_Check_o v9) [9] [])), (5, dfx true), (7, dex (cen [] [] 0 0 (poly_Area2_x v12) (poly_Area2_o v12) [12, 13] [])), (9, dex (cen [] [] 0 0 (ref09_Area2_x v14) (ref09_Area2_o v14) [12, 15] [])), (12, dfx false)] [] 0 ⟨[(2, vb false)], []⟩ (o1 (And.intro (callS (K := (kx E 29 0)) ⟨[(7, vc (tl e_Point default a1))], []⟩ (opAt (rg Tryd.f3 14) 1) [] [] 0 o0 rfl (poly_Check_ok a1 v7 h8) (.inl rfl) (by kernel_rfl)) (And.intro (callS (K := (kx E 29 0)) ⟨[(9, vc (tl e_Point default a1))], []⟩ (opAt (rg Tryd.f3 14) 3) [] [] 0 o0 rfl (ref09_Check_ok a1 v9 h10) (.inl rfl) (by kernel_rfl)) (And.intro b11 (And.intro (callS (K := (kx E 29 0)) ⟨[(12, vb true), (13, vc (tl e_Point default a1))], []⟩ (opAt (rg Tryd.f3 14) 7) [] [] 0 o0 rfl (poly_Area2_ok a1 v12 h13) (.inl rfl) (by kernel_rfl)) (And.intro (callS (K := (kx E 29 0)) ⟨[(12, vb true), (15, vc (tl e_Point default a1))], []⟩ (opAt (rg Tryd.f3 14) 9) [] [] 0 o0 rfl (ref09_Area2_ok a1 v14 h15) (.inl rfl) (by kernel_rfl)) b16)))))) (by kernel_rfl) (by kernel_rfl) ?_
          exact J_mk (false) hm (by kernel_rfl) (by kernel_rfl)
      · replace hm := bif_f b11 hm
        refine R_rn Tryd.f3 14 3 [(1, dex (cen [] [] 0 0 (poly_Check_x v7) (poly_Check_o v7) [7] [])), (3, dex (cen [] [] 0 0 (ref09_Check_x v9) (ref09_Check_o v9) [9] [])), (5, dfx false)] [] 0 ⟨[(2, vb false)], []⟩ (o1 (And.intro (callS (K := (kx E 29 0)) ⟨[(7, vc (tl e_Point default a1))], []⟩ (opAt (rg Tryd.f3 14) 1) [] [] 0 o0 rfl (poly_Check_ok a1 v7 h8) (.inl rfl) (by kernel_rfl)) (And.intro (callS (K := (kx E 29 0)) ⟨[(9, vc (tl e_Point default a1))], []⟩ (opAt (rg Tryd.f3 14) 3) [] [] 0 o0 rfl (ref09_Check_ok a1 v9 h10) (.inl rfl) (by kernel_rfl)) b11))) (by kernel_rfl) (by kernel_rfl) ?_
        exact J_mk (false) hm (by kernel_rfl) (by kernel_rfl)

end Saw
end Go.SL
