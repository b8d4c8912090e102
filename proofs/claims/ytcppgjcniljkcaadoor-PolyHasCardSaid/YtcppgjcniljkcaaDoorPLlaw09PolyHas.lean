import Derived.Test.YtcppgjcniljkcaaDoorPBase
import Derived.Test.YtcppgjcniljkcaaDoorPLs
import Derived.Test.YtcppgjcniljkcaaDoorPLlaw09awake
import Derived.Test.YtcppgjcniljkcaaDoorPFa2
import Derived.Test.YtcppgjcniljkcaaDoorPFa7
set_option linter.unusedVariables false
set_option linter.unusedSimpArgs false
namespace Go.SL
namespace Saw
open Go.Proofs
set_option maxHeartbeats 4000000

def law09_PolyHas_x (r : Bool) : V := vb r

def law09_PolyHas_o (r : Bool) : List (Nat × (Nat × O)) := []

theorem law09_PolyHas_f (r : Bool) : Frozen (law09_PolyHas_o r) := by
  intro i k o h
  unfold law09_PolyHas_o at h
  cases h

def law09_PolyHas_k1_S (x15 : Bool) : St :=
  ⟨[(4, vb x15)], []⟩

set_option maxRecDepth 100000 in
theorem law09_PolyHas_ok (a1 : List Point) (a2 : Point) (r : Bool) (hm : law09_PolyHas a1 a2 = some r) : CtX Tryd.prog globs 5 0 0 [.one (tl e_Point default a1), .agg [ci a2.X, ci a2.Y]] [] (law09_PolyHas_x r) (law09_PolyHas_o r) := by
  unfold law09_PolyHas at hm
  refine CtX_of_E (fn := Tryd.f5) (c := nd Tryd.f5 1) (nt := 19) (by kernel_rfl) (by kernel_rfl) (by kernel_rfl) (by kernel_rfl) fun E => ?_
  refine R_sq Tryd.f5 2 3 (by kernel_rfl) ?_
  refine R_rn Tryd.f5 2 0 [] [] 0 ⟨[(0, vc (tl e_Point default a1)), (3, vp 0 0)], [(0, bx 38 [ci a2.X, ci a2.Y])]⟩ o0 (by kernel_rfl) (by kernel_rfl) ?_
  refine R_sq Tryd.f5 6 7 (by kernel_rfl) ?_
  refine R_sq Tryd.f5 12 13 (by kernel_rfl) ?_
  obtain ⟨v3, h4, hm⟩ := bind_s hm
  refine R_rn Tryd.f5 12 1 [(1, dex (cen [] [] 1 0 (law09_few_x v3) (law09_few_o v3) [5] []))] [] 1 ⟨[(0, vc (tl e_Point default a1)), (3, vp 0 0), (7, vb (!v3))], [(0, bx 38 [ci a2.X, ci a2.Y])]⟩ (o1 (callS (K := (kx E 19 0)) ⟨[(5, vc (tl e_Point default a1))], []⟩ (opAt (rg Tryd.f5 12) 1) [] [] 1 o0 rfl (law09_few_ok a1 v3 h4) (.inl rfl) (by kernel_rfl))) (by kernel_rfl) (by kernel_rfl) ?_
  refine R_cn Tryd.f5 (.tmp 7) 26 27 (by kernel_rfl) (!v3) (by kernel_rfl) (fun b5 => ?_) (fun b5 => ?_)
  · replace hm := bif_t b5 hm
    refine R_sq Tryd.f5 52 53 (by kernel_rfl) ?_
    obtain ⟨v6, h7, hm⟩ := bind_s hm
    refine R_rn Tryd.f5 52 2 [(0, dex (cen [] [] 1 0 (law09_awake_x v6) (law09_awake_o v6) [] []))] [] 1 ⟨[(4, vb v6)], []⟩ (o1 (callS (K := (kx E 19 0)) ⟨[], []⟩ (opAt (rg Tryd.f5 52) 0) [] [] 1 o0 rfl (law09_awake_ok v6 h7) (.inl rfl) (by kernel_rfl))) (by kernel_rfl) (by kernel_rfl) ?_
    obtain rfl := Option.some.inj hm
    refine R_ret (by kernel_rfl) ?_
    exact ret_mk (by kernel_rfl) (by kernel_rfl)
  · replace hm := bif_f b5 hm
    refine R_skip (by kernel_rfl) ?_
    refine R_join (ι := Bool) (nd Tryd.f5 14) (nd Tryd.f5 15) (by kernel_rfl) (fun p => law09_PolyHas_k1_S p) (fun p => law09_PolyHas_k1 p = some r) ?_ ?_
    · rintro x15 hm
      show H _ (law09_PolyHas_k1_S x15) (nd Tryd.f5 15) _
      obtain rfl := Option.some.inj hm
      refine R_ret (by kernel_rfl) ?_
      exact ret_mk (by kernel_rfl) (by kernel_rfl)
    · obtain ⟨v8, h9, hm⟩ := bind_s hm
      obtain ⟨v10, h11, hm⟩ := bind_s hm
      rcases Bool.eq_false_or_eq_true (v8 == v10) with b12 | b12
      · replace hm := bif_t b12 hm
        obtain ⟨v13, h14, hm⟩ := bind_s hm
        refine R_dr Tryd.f5 14 3 [] [(2, dex (cen [] [] 1 0 (poly_Has_x v8) (poly_Has_o v8) [9, 10] [])), (5, dex (cen [] [] 1 0 (ref09_Has_x v10) (ref09_Has_o v10) [12, 13] [])), (7, dfx true), (8, dex (cen [] [] 1 0 (law09_awake_x v13) (law09_awake_o v13) [16] []))] [] [0, 0, 3, 0, 0, 31, 63, 127, 255, 511, 1023] 1 ⟨[(4, vb v13)], []⟩ (o1 (And.intro (callS (K := (kx E 19 0)) ⟨[(9, vc (tl e_Point default a1)), (10, va [ci a2.X, ci a2.Y])], []⟩ (opAt (rg Tryd.f5 14) 2) [] [] 1 o0 rfl (poly_Has_ok a1 a2 v8 h9) (.inl rfl) (by kernel_rfl)) (And.intro (callS (K := (kx E 19 0)) ⟨[(12, vc (tl e_Point default a1)), (13, va [ci a2.X, ci a2.Y])], []⟩ (opAt (rg Tryd.f5 14) 5) [] [] 1 o0 rfl (ref09_Has_ok a1 a2 v10 h11) (.inl rfl) (by kernel_rfl)) (And.intro b12 (callS (K := (kx E 19 0)) ⟨[(16, vb true)], []⟩ (opAt (rg Tryd.f5 14) 8) [] [] 1 o0 rfl (law09_awake_ok v13 h14) (.inl rfl) (by kernel_rfl)))))) (by kernel_rfl) (by kernel_rfl) ?_
        exact J_mk (v13) hm (by kernel_rfl) (by kernel_rfl)
      · replace hm := bif_f b12 hm
        refine R_dr Tryd.f5 14 3 [] [(2, dex (cen [] [] 1 0 (poly_Has_x v8) (poly_Has_o v8) [9, 10] [])), (5, dex (cen [] [] 1 0 (ref09_Has_x v10) (ref09_Has_o v10) [12, 13] [])), (7, dfx false)] [] [0, 0, 3, 0, 0, 31, 63, 127, 255, 511, 1023] 1 ⟨[(4, vb false)], []⟩ (o1 (And.intro (callS (K := (kx E 19 0)) ⟨[(9, vc (tl e_Point default a1)), (10, va [ci a2.X, ci a2.Y])], []⟩ (opAt (rg Tryd.f5 14) 2) [] [] 1 o0 rfl (poly_Has_ok a1 a2 v8 h9) (.inl rfl) (by kernel_rfl)) (And.intro (callS (K := (kx E 19 0)) ⟨[(12, vc (tl e_Point default a1)), (13, va [ci a2.X, ci a2.Y])], []⟩ (opAt (rg Tryd.f5 14) 5) [] [] 1 o0 rfl (ref09_Has_ok a1 a2 v10 h11) (.inl rfl) (by kernel_rfl)) b12))) (by kernel_rfl) (by kernel_rfl) ?_
        exact J_mk (false) hm (by kernel_rfl) (by kernel_rfl)

end Saw
end Go.SL
