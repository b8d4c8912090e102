import Derived.Test.YtcppgjcniljkcaaDoorPBase
import Derived.Test.YtcppgjcniljkcaaDoorPLs
import Derived.Test.YtcppgjcniljkcaaDoorPLlaw09awake
import Derived.Test.YtcppgjcniljkcaaDoorPFa3
import Derived.Test.YtcppgjcniljkcaaDoorPFa5
import Derived.Test.YtcppgjcniljkcaaDoorPFa2
set_option linter.unusedVariables false
set_option linter.unusedSimpArgs false
namespace Go.SL
namespace Saw
open Go.Proofs
set_option maxHeartbeats 4000000

def law09_PolyHulls_x (r : Bool) : V := vb r

def law09_PolyHulls_o (r : Bool) : List (Nat × (Nat × O)) := []

theorem law09_PolyHulls_f (r : Bool) : Frozen (law09_PolyHulls_o r) := by
  intro i k o h
  unfold law09_PolyHulls_o at h
  cases h

def law09_PolyHulls_k1_S (x16 : Bool) : St :=
  ⟨[(2, vb x16)], []⟩

set_option maxRecDepth 100000 in
theorem law09_PolyHulls_ok (a1 : List Point) (r : Bool) (hm : law09_PolyHulls a1 = some r) : CtX Tryd.prog globs 6 0 0 [.one (tl e_Point default a1)] [] (law09_PolyHulls_x r) (law09_PolyHulls_o r) := by
  unfold law09_PolyHulls at hm
  refine CtX_of_E (fn := Tryd.f6) (c := nd Tryd.f6 1) (nt := 15) (by kernel_rfl) (by kernel_rfl) (by kernel_rfl) (by kernel_rfl) fun E => ?_
  refine R_sq Tryd.f6 2 3 (by kernel_rfl) ?_
  refine R_rn Tryd.f6 2 0 [] [] 0 ⟨[(0, vc (tl e_Point default a1))], []⟩ o0 (by kernel_rfl) (by kernel_rfl) ?_
  refine R_sq Tryd.f6 6 7 (by kernel_rfl) ?_
  refine R_sq Tryd.f6 12 13 (by kernel_rfl) ?_
  obtain ⟨v2, h3, hm⟩ := bind_s hm
  refine R_rn Tryd.f6 12 1 [(1, dex (cen [] [] 0 0 (law09_few_x v2) (law09_few_o v2) [3] []))] [] 0 ⟨[(0, vc (tl e_Point default a1)), (5, vb (!v2))], []⟩ (o1 (callS (K := (kx E 15 0)) ⟨[(3, vc (tl e_Point default a1))], []⟩ (opAt (rg Tryd.f6 12) 1) [] [] 0 o0 rfl (law09_few_ok a1 v2 h3) (.inl rfl) (by kernel_rfl))) (by kernel_rfl) (by kernel_rfl) ?_
  refine R_cn Tryd.f6 (.tmp 5) 26 27 (by kernel_rfl) (!v2) (by kernel_rfl) (fun b4 => ?_) (fun b4 => ?_)
  · replace hm := bif_t b4 hm
    refine R_sq Tryd.f6 52 53 (by kernel_rfl) ?_
    obtain ⟨v5, h6, hm⟩ := bind_s hm
    refine R_rn Tryd.f6 52 2 [(0, dex (cen [] [] 0 0 (law09_awake_x v5) (law09_awake_o v5) [] []))] [] 0 ⟨[(2, vb v5)], []⟩ (o1 (callS (K := (kx E 15 0)) ⟨[], []⟩ (opAt (rg Tryd.f6 52) 0) [] [] 0 o0 rfl (law09_awake_ok v5 h6) (.inl rfl) (by kernel_rfl))) (by kernel_rfl) (by kernel_rfl) ?_
    obtain rfl := Option.some.inj hm
    refine R_ret (by kernel_rfl) ?_
    exact ret_mk (by kernel_rfl) (by kernel_rfl)
  · replace hm := bif_f b4 hm
    refine R_skip (by kernel_rfl) ?_
    refine R_join (ι := Bool) (nd Tryd.f6 14) (nd Tryd.f6 15) (by kernel_rfl) (fun p => law09_PolyHulls_k1_S p) (fun p => law09_PolyHulls_k1 p = some r) ?_ ?_
    · rintro x16 hm
      show H _ (law09_PolyHulls_k1_S x16) (nd Tryd.f6 15) _
      obtain rfl := Option.some.inj hm
      refine R_ret (by kernel_rfl) ?_
      exact ret_mk (by kernel_rfl) (by kernel_rfl)
    · obtain ⟨v7, h8, hm⟩ := bind_s hm
      obtain ⟨v9, h10, hm⟩ := bind_s hm
      obtain ⟨v11, h12, hm⟩ := bind_s hm
      rcases Bool.eq_false_or_eq_true v11 with b13 | b13
      · replace hm := bif_t b13 hm
        obtain ⟨v14, h15, hm⟩ := bind_s hm
        refine R_rn Tryd.f6 14 3 [(1, dex (cen [] [] 0 0 (poly_Hull_x v7) (poly_Hull_o v7) [7] [])), (3, dex (cen [] [] 1 0 (ref09_Hull_x v9) (ref09_Hull_o v9) [9] [])), (4, dex (cen [] [] 2 0 (ref09_Same_x v11) (ref09_Same_o v11) [8, 10] [0, 1])), (5, dfx true), (6, dex (cen [] [] 2 0 (law09_awake_x v14) (law09_awake_o v14) [12] []))] [] 0 ⟨[(2, vb v14)], []⟩ (o1 (And.intro (callS (K := (kx E 15 0)) ⟨[(7, vc (tl e_Point default a1))], []⟩ (opAt (rg Tryd.f6 14) 1) [] [] 0 o0 rfl (poly_Hull_ok a1 v7 h8) (.inl rfl) (by kernel_rfl)) (And.intro (callS (K := (kx E 15 0)) ⟨[(9, vc (tl e_Point default a1))], []⟩ (opAt (rg Tryd.f6 14) 3) [] [] 1 o0 rfl (ref09_Hull_ok a1 v9 h10) (.inl rfl) (by kernel_rfl)) (And.intro (callS (K := (kx E 15 0)) (b := false) ⟨[(8, vo 0 0 2 v7.length), (10, vo 1 0 2 v9.length)], [(0, ro 0 38 2 v7.length (rf e_Point v7)), (1, ro 0 38 2 v9.length (rf e_Point v9))]⟩ (opAt (rg Tryd.f6 14) 4) [] [] 2 (o1 (And.intro (Nat.le_refl v7.length) (Nat.le_refl v9.length))) rfl (ref09_Same_ok v7 v9 v11 h12) (.inr ⟨(by kernel_rfl), ref09_Same_f v11⟩) (by kernel_rfl)) (And.intro b13 (callS (K := (kx E 15 0)) ⟨[(12, vb true)], []⟩ (opAt (rg Tryd.f6 14) 6) [] [] 2 o0 rfl (law09_awake_ok v14 h15) (.inl rfl) (by kernel_rfl))))))) (by kernel_rfl) (by kernel_rfl) ?_
        exact J_mk (v14) hm (by kernel_rfl) (by kernel_rfl)
      · replace hm := bif_f b13 hm
        refine R_rn Tryd.f6 14 3 [(1, dex (cen [] [] 0 0 (poly_Hull_x v7) (poly_Hull_o v7) [7] [])), (3, dex (cen [] [] 1 0 (ref09_Hull_x v9) (ref09_Hull_o v9) [9] [])), (4, dex (cen [] [] 2 0 (ref09_Same_x v11) (ref09_Same_o v11) [8, 10] [0, 1])), (5, dfx false)] [] 0 ⟨[(2, vb false)], []⟩ (o1 (And.intro (callS (K := (kx E 15 0)) ⟨[(7, vc (tl e_Point default a1))], []⟩ (opAt (rg Tryd.f6 14) 1) [] [] 0 o0 rfl (poly_Hull_ok a1 v7 h8) (.inl rfl) (by kernel_rfl)) (And.intro (callS (K := (kx E 15 0)) ⟨[(9, vc (tl e_Point default a1))], []⟩ (opAt (rg Tryd.f6 14) 3) [] [] 1 o0 rfl (ref09_Hull_ok a1 v9 h10) (.inl rfl) (by kernel_rfl)) (And.intro (callS (K := (kx E 15 0)) (b := false) ⟨[(8, vo 0 0 2 v7.length), (10, vo 1 0 2 v9.length)], [(0, ro 0 38 2 v7.length (rf e_Point v7)), (1, ro 0 38 2 v9.length (rf e_Point v9))]⟩ (opAt (rg Tryd.f6 14) 4) [] [] 2 (o1 (And.intro (Nat.le_refl v7.length) (Nat.le_refl v9.length))) rfl (ref09_Same_ok v7 v9 v11 h12) (.inr ⟨(by kernel_rfl), ref09_Same_f v11⟩) (by kernel_rfl)) b13)))) (by kernel_rfl) (by kernel_rfl) ?_
        exact J_mk (false) hm (by kernel_rfl) (by kernel_rfl)

end Saw
end Go.SL
