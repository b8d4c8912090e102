import Derived.Test.YtcppgjcniljkcaaDoorPBase
import Derived.Test.YtcppgjcniljkcaaDoorPLs
import Derived.Test.YtcppgjcniljkcaaDoorPLlaw09awake
import Derived.Test.YtcppgjcniljkcaaDoorPFa2
import Derived.Test.YtcppgjcniljkcaaDoorPFa8
set_option linter.unusedVariables false
set_option linter.unusedSimpArgs false
namespace Go.SL
namespace Saw
open Go.Proofs
set_option maxHeartbeats 4000000

def law09_PolyTurns_x (r : Bool) : V := vb r

def law09_PolyTurns_o (r : Bool) : List (Nat × (Nat × O)) := []

theorem law09_PolyTurns_f (r : Bool) : Frozen (law09_PolyTurns_o r) := by
  intro i k o h
  unfold law09_PolyTurns_o at h
  cases h

def law09_PolyTurns_k1_S (x24 : Bool) : St :=
  ⟨[(4, vb x24)], []⟩

set_option maxRecDepth 100000 in
theorem law09_PolyTurns_ok (a1 : List Point) (a2 : Int) (r : Bool) (hm : law09_PolyTurns a1 a2 = some r) : CtX Tryd.prog globs 4 0 0 [.one (tl e_Point default a1), .one (ci a2)] [] (law09_PolyTurns_x r) (law09_PolyTurns_o r) := by
  unfold law09_PolyTurns at hm
  refine CtX_of_E (fn := Tryd.f4) (c := nd Tryd.f4 1) (nt := 26) (by kernel_rfl) (by kernel_rfl) (by kernel_rfl) (by kernel_rfl) fun E => ?_
  refine R_sq Tryd.f4 2 3 (by kernel_rfl) ?_
  refine R_rn Tryd.f4 2 0 [] [] 0 ⟨[(0, vc (tl e_Point default a1)), (1, vi a2)], []⟩ o0 (by kernel_rfl) (by kernel_rfl) ?_
  refine R_sq Tryd.f4 6 7 (by kernel_rfl) ?_
  refine R_sq Tryd.f4 12 13 (by kernel_rfl) ?_
  obtain ⟨v3, h4, hm⟩ := bind_s hm
  refine R_rn Tryd.f4 12 1 [(1, dex (cen [] [] 0 0 (law09_few_x v3) (law09_few_o v3) [5] []))] [] 0 ⟨[(0, vc (tl e_Point default a1)), (1, vi a2), (7, vb (!v3))], []⟩ (o1 (callS (K := (kx E 26 0)) ⟨[(5, vc (tl e_Point default a1))], []⟩ (opAt (rg Tryd.f4 12) 1) [] [] 0 o0 rfl (law09_few_ok a1 v3 h4) (.inl rfl) (by kernel_rfl))) (by kernel_rfl) (by kernel_rfl) ?_
  refine R_cn Tryd.f4 (.tmp 7) 26 27 (by kernel_rfl) (!v3) (by kernel_rfl) (fun b5 => ?_) (fun b5 => ?_)
  · replace hm := bif_t b5 hm
    refine R_sq Tryd.f4 52 53 (by kernel_rfl) ?_
    obtain ⟨v6, h7, hm⟩ := bind_s hm
    refine R_rn Tryd.f4 52 2 [(0, dex (cen [] [] 0 0 (law09_awake_x v6) (law09_awake_o v6) [] []))] [] 0 ⟨[(4, vb v6)], []⟩ (o1 (callS (K := (kx E 26 0)) ⟨[], []⟩ (opAt (rg Tryd.f4 52) 0) [] [] 0 o0 rfl (law09_awake_ok v6 h7) (.inl rfl) (by kernel_rfl))) (by kernel_rfl) (by kernel_rfl) ?_
    obtain rfl := Option.some.inj hm
    refine R_ret (by kernel_rfl) ?_
    exact ret_mk (by kernel_rfl) (by kernel_rfl)
  · replace hm := bif_f b5 hm
    refine R_skip (by kernel_rfl) ?_
    refine R_join (ι := Bool) (nd Tryd.f4 14) (nd Tryd.f4 15) (by kernel_rfl) (fun p => law09_PolyTurns_k1_S p) (fun p => law09_PolyTurns_k1 p = some r) ?_ ?_
    · rintro x24 hm
      show H _ (law09_PolyTurns_k1_S x24) (nd Tryd.f4 15) _
      obtain rfl := Option.some.inj hm
      refine R_ret (by kernel_rfl) ?_
      exact ret_mk (by kernel_rfl) (by kernel_rfl)
    · obtain ⟨v8, h9, hm⟩ := bind_s hm
      obtain ⟨v10, h11, hm⟩ := bind_s hm
      obtain ⟨v12, h13, hm⟩ := bind_s hm
      rcases Bool.eq_false_or_eq_true v12 with b14 | b14
      · replace hm := bif_t b14 hm
        obtain ⟨v15, h16, hm⟩ := bind_s hm
        obtain ⟨v17, h18, hm⟩ := bind_s hm
        obtain ⟨v19, h20, hm⟩ := bind_s hm
        rcases Bool.eq_false_or_eq_true v19 with b21 | b21
        · replace hm := bif_t b21 hm
          obtain ⟨v22, h23, hm⟩ := bind_s hm
          refine R_rn Tryd.f4 14 3 [(2, dex (cen [] [] 0 0 (poly_Turn_x v8) (poly_Turn_o v8) [9, 10] [])), (5, dex (cen [] [] 1 0 (ref09_Turn_x v10) (ref09_Turn_o v10) [12, 13] [])), (6, dex (cen [] [] 2 0 (ref09_Same_x v12) (ref09_Same_o v12) [11, 14] [0, 1])), (7, dfx true), (9, dex (cen [] [] 2 0 (poly_Mirror_x v15) (poly_Mirror_o v15) [16, 17] [])), (11, dex (cen [] [] 3 0 (ref09_Mirror_x v17) (ref09_Mirror_o v17) [16, 19] [])), (12, dex (cen [] [] 4 0 (ref09_Same_x v19) (ref09_Same_o v19) [16, 18, 20] [2, 3])), (14, dfx true), (15, dex (cen [] [] 4 0 (law09_awake_x v22) (law09_awake_o v22) [23] []))] [] 0 ⟨[(4, vb v22)], []⟩ (o1 (And.intro (callS (K := (kx E 26 0)) ⟨[(9, vc (tl e_Point default a1)), (10, vi a2)], []⟩ (opAt (rg Tryd.f4 14) 2) [] [] 0 o0 rfl (poly_Turn_ok a1 a2 v8 h9) (.inl rfl) (by kernel_rfl)) (And.intro (callS (K := (kx E 26 0)) ⟨[(12, vc (tl e_Point default a1)), (13, vi a2)], []⟩ (opAt (rg Tryd.f4 14) 5) [] [] 1 o0 rfl (ref09_Turn_ok a1 a2 v10 h11) (.inl rfl) (by kernel_rfl)) (And.intro (callS (K := (kx E 26 0)) (b := false) ⟨[(11, vo 0 0 2 v8.length), (14, vo 1 0 2 v10.length)], [(0, ro 0 38 2 v8.length (rf e_Point v8)), (1, ro 0 38 2 v10.length (rf e_Point v10))]⟩ (opAt (rg Tryd.f4 14) 6) [] [] 2 (o1 (And.intro (Nat.le_refl v8.length) (Nat.le_refl v10.length))) rfl (ref09_Same_ok v8 v10 v12 h13) (.inr ⟨(by kernel_rfl), ref09_Same_f v12⟩) (by kernel_rfl)) (And.intro b14 (And.intro (callS (K := (kx E 26 0)) ⟨[(16, vb true), (17, vc (tl e_Point default a1))], []⟩ (opAt (rg Tryd.f4 14) 9) [] [] 2 o0 rfl (poly_Mirror_ok a1 v15 h16) (.inl rfl) (by kernel_rfl)) (And.intro (callS (K := (kx E 26 0)) ⟨[(16, vb true), (19, vc (tl e_Point default a1))], []⟩ (opAt (rg Tryd.f4 14) 11) [] [] 3 o0 rfl (ref09_Mirror_ok a1 v17 h18) (.inl rfl) (by kernel_rfl)) (And.intro (callS (K := (kx E 26 0)) (b := false) ⟨[(16, vb true), (18, vo 2 0 2 v15.length), (20, vo 3 0 2 v17.length)], [(2, ro 0 38 2 v15.length (rf e_Point v15)), (3, ro 0 38 2 v17.length (rf e_Point v17))]⟩ (opAt (rg Tryd.f4 14) 12) [] [] 4 (o1 (And.intro (Nat.le_refl v15.length) (Nat.le_refl v17.length))) rfl (ref09_Same_ok v15 v17 v19 h20) (.inr ⟨(by kernel_rfl), ref09_Same_f v19⟩) (by kernel_rfl)) (And.intro b21 (callS (K := (kx E 26 0)) ⟨[(23, vb true)], []⟩ (opAt (rg Tryd.f4 14) 15) [] [] 4 o0 rfl (law09_awake_ok v22 h23) (.inl rfl) (by kernel_rfl))))))))))) (by kernel_rfl) (by kernel_rfl) ?_
          exact J_mk (v22) hm (by kernel_rfl) (by kernel_rfl)
        · replace hm := bif_f b21 hm
          refine R_rn Tryd.f4 14 3 [(2, dex (cen [] [] 0 0 (poly_Turn_x v8) (poly_Turn_o v8) [9, 10] [])), (5, dex (cen [] [] 1 0 (ref09_Turn_x v10) (ref09_Turn_o v10) [12, 13] [])), (6, dex (cen [] [] 2 0 (ref09_Same_x v12) (ref09_Same_o v12) [11, 14] [0, 1])), (7, dfx true), (9, dex (cen [] [] 2 0 (poly_Mirror_x v15) (poly_Mirror_o v15) [16, 17] [])), (11, dex (cen [] [] 3 0 (ref09_Mirror_x v17) (ref09_Mirror_o v17) [16, 19] [])), (12, dex (cen [] [] 4 0 (ref09_Same_x v19) (ref09_Same_o v19) [16, 18, 20] [2, 3])), (14, dfx false)] [] 0 ⟨[(4, vb false)], []⟩ (o1 (And.intro (callS (K := (kx E 26 0)) ⟨[(9, vc (tl e_Point default a1)), (10, vi a2)], []⟩ (opAt (rg Tryd.f4 14) 2) [] [] 0 o0 rfl (poly_Turn_ok a1 a2 v8 h9) (.inl rfl) (by kernel_rfl)) (And.intro (callS (K := (kx E 26 0)) ⟨[(12, vc (tl e_Point default a1)), (13, vi a2)], []⟩ (opAt (rg Tryd.f4 14) 5) [] [] 1 o0 rfl (ref09_Turn_ok a1 a2 v10 h11) (.inl rfl) (by kernel_rfl)) (And.intro (callS (K := (kx E 26 0)) (b := false) ⟨[(11, vo 0 0 2 v8.length), (14, vo 1 0 2 v10.length)], [(0, ro 0 38 2 v8.length (rf e_Point v8)), (1, ro 0 38 2 v10.length (rf e_Point v10))]⟩ (opAt (rg Tryd.f4 14) 6) [] [] 2 (o1 (And.intro (Nat.le_refl v8.length) (Nat.le_refl v10.length))) rfl (ref09_Same_ok v8 v10 v12 h13) (.inr ⟨(by kernel_rfl), ref09_Same_f v12⟩) (by kernel_rfl)) (And.intro b14 (And.intro (callS (K := (kx E 26 0)) ⟨[(16, vb true), (17, vc (tl e_Point default a1))], []⟩ (opAt (rg Tryd.f4 14) 9) [] [] 2 o0 rfl (poly_Mirror_ok a1 v15 h16) (.inl rfl) (by kernel_rfl)) (And.intro (callS (K := (kx E 26 0)) ⟨[(16, vb true), (19, vc (tl e_Point default a1))], []⟩ (opAt (rg Tryd.f4 14) 11) [] [] 3 o0 rfl (ref09_Mirror_ok a1 v17 h18) (.inl rfl) (by kernel_rfl)) (And.intro (callS (K := (kx E 26 0)) (b := false) ⟨[(16, vb true), (18, vo 2 0 2 v15.length), (20, vo 3 0 2 v17.length)], [(2, ro 0 38 2 v15.length (rf e_Point v15)), (3, ro 0 38 2 v17.length (rf e_Point v17))]⟩ (opAt (rg Tryd.f4 14) 12) [] [] 4 (o1 (And.intro (Nat.le_refl v15.length) (Nat.le_refl v17.length))) rfl (ref09_Same_ok v15 v17 v19 h20) (.inr ⟨(by kernel_rfl), ref09_Same_f v19⟩) (by kernel_rfl)) b21)))))))) (by kernel_rfl) (by kernel_rfl) ?_
          exact J_mk (false) hm (by kernel_rfl) (by kernel_rfl)
      · replace hm := bif_f b14 hm
        refine R_rn Tryd.f4 14 3 [(2, dex (cen [] [] 0 0 (poly_Turn_x v8) (poly_Turn_o v8) [9, 10] [])), (5, dex (cen [] [] 1 0 (ref09_Turn_x v10) (ref09_Turn_o v10) [12, 13] [])), (6, dex (cen [] [] 2 0 (ref09_Same_x v12) (ref09_Same_o v12) [11, 14] [0, 1])), (7, dfx false)] [] 0 ⟨[(4, vb false)], []⟩ (o1 (And.intro (callS (K := (kx E 26 0)) ⟨[(9, vc (tl e_Point default a1)), (10, vi a2)], []⟩ (opAt (rg Tryd.f4 14) 2) [] [] 0 o0 rfl (poly_Turn_ok a1 a2 v8 h9) (.inl rfl) (by kernel_rfl)) (And.intro (callS (K := (kx E 26 0)) ⟨[(12, vc (tl e_Point default a1)), (13, vi a2)], []⟩ (opAt (rg Tryd.f4 14) 5) [] [] 1 o0 rfl (ref09_Turn_ok a1 a2 v10 h11) (.inl rfl) (by kernel_rfl)) (And.intro (callS (K := (kx E 26 0)) (b := false) ⟨[(11, vo 0 0 2 v8.length), (14, vo 1 0 2 v10.length)], [(0, ro 0 38 2 v8.length (rf e_Point v8)), (1, ro 0 38 2 v10.length (rf e_Point v10))]⟩ (opAt (rg Tryd.f4 14) 6) [] [] 2 (o1 (And.intro (Nat.le_refl v8.length) (Nat.le_refl v10.length))) rfl (ref09_Same_ok v8 v10 v12 h13) (.inr ⟨(by kernel_rfl), ref09_Same_f v12⟩) (by kernel_rfl)) b14)))) (by kernel_rfl) (by kernel_rfl) ?_
        exact J_mk (false) hm (by kernel_rfl) (by kernel_rfl)

end Saw
end Go.SL
