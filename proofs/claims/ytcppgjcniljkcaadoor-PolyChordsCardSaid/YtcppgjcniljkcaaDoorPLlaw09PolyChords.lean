import Derived.Test.YtcppgjcniljkcaaDoorPBase
import Derived.Test.YtcppgjcniljkcaaDoorPLs
import Derived.Test.YtcppgjcniljkcaaDoorPLlaw09awake
import Derived.Test.YtcppgjcniljkcaaDoorPFa4
import Derived.Test.YtcppgjcniljkcaaDoorPFa6
set_option linter.unusedVariables false
set_option linter.unusedSimpArgs false
namespace Go.SL
namespace Saw
open Go.Proofs
set_option maxHeartbeats 4000000

def law09_PolyChords_x (r : Bool) : V := vb r

def law09_PolyChords_o (r : Bool) : List (Nat × (Nat × O)) := []

theorem law09_PolyChords_f (r : Bool) : Frozen (law09_PolyChords_o r) := by
  intro i k o h
  unfold law09_PolyChords_o at h
  cases h

def law09_PolyChords_k1_S (x16 : Bool) : St :=
  ⟨[(6, vb x16)], []⟩

set_option maxRecDepth 100000 in
theorem law09_PolyChords_ok (a1 : List Point) (a2 : Int) (a3 : Int) (r : Bool) (hm : law09_PolyChords a1 a2 a3 = some r) : CtX Tryd.prog globs 7 0 0 [.one (tl e_Point default a1), .one (ci a2), .one (ci a3)] [] (law09_PolyChords_x r) (law09_PolyChords_o r) := by
  unfold law09_PolyChords at hm
  refine CtX_of_E (fn := Tryd.f7) (c := nd Tryd.f7 1) (nt := 23) (by kernel_rfl) (by kernel_rfl) (by kernel_rfl) (by kernel_rfl) fun E => ?_
  refine R_sq Tryd.f7 2 3 (by kernel_rfl) ?_
  refine R_rn Tryd.f7 2 0 [] [] 0 ⟨[(0, vc (tl e_Point default a1)), (1, vi a2), (2, vi a3)], []⟩ o0 (by kernel_rfl) (by kernel_rfl) ?_
  refine R_sq Tryd.f7 6 7 (by kernel_rfl) ?_
  refine R_sq Tryd.f7 12 13 (by kernel_rfl) ?_
  obtain ⟨v4, h5, hm⟩ := bind_s hm
  refine R_rn Tryd.f7 12 1 [(1, dex (cen [] [] 0 0 (law09_few_x v4) (law09_few_o v4) [7] []))] [] 0 ⟨[(0, vc (tl e_Point default a1)), (1, vi a2), (2, vi a3), (9, vb (!v4))], []⟩ (o1 (callS (K := (kx E 23 0)) ⟨[(7, vc (tl e_Point default a1))], []⟩ (opAt (rg Tryd.f7 12) 1) [] [] 0 o0 rfl (law09_few_ok a1 v4 h5) (.inl rfl) (by kernel_rfl))) (by kernel_rfl) (by kernel_rfl) ?_
  refine R_cn Tryd.f7 (.tmp 9) 26 27 (by kernel_rfl) (!v4) (by kernel_rfl) (fun b6 => ?_) (fun b6 => ?_)
  · replace hm := bif_t b6 hm
    refine R_sq Tryd.f7 52 53 (by kernel_rfl) ?_
    obtain ⟨v7, h8, hm⟩ := bind_s hm
    refine R_rn Tryd.f7 52 2 [(0, dex (cen [] [] 0 0 (law09_awake_x v7) (law09_awake_o v7) [] []))] [] 0 ⟨[(6, vb v7)], []⟩ (o1 (callS (K := (kx E 23 0)) ⟨[], []⟩ (opAt (rg Tryd.f7 52) 0) [] [] 0 o0 rfl (law09_awake_ok v7 h8) (.inl rfl) (by kernel_rfl))) (by kernel_rfl) (by kernel_rfl) ?_
    obtain rfl := Option.some.inj hm
    refine R_ret (by kernel_rfl) ?_
    exact ret_mk (by kernel_rfl) (by kernel_rfl)
  · replace hm := bif_f b6 hm
    refine R_skip (by kernel_rfl) ?_
    refine R_join (ι := Bool) (nd Tryd.f7 14) (nd Tryd.f7 15) (by kernel_rfl) (fun p => law09_PolyChords_k1_S p) (fun p => law09_PolyChords_k1 p = some r) ?_ ?_
    · rintro x16 hm
      show H _ (law09_PolyChords_k1_S x16) (nd Tryd.f7 15) _
      obtain rfl := Option.some.inj hm
      refine R_ret (by kernel_rfl) ?_
      exact ret_mk (by kernel_rfl) (by kernel_rfl)
    · obtain ⟨v9, h10, hm⟩ := bind_s hm
      obtain ⟨v11, h12, hm⟩ := bind_s hm
      rcases Bool.eq_false_or_eq_true ((v9.A == v11.A) && ((v9.B == v11.B) && true)) with b13 | b13
      · replace hm := bif_t b13 hm
        obtain ⟨v14, h15, hm⟩ := bind_s hm
        refine R_rn Tryd.f7 14 3 [(3, dex (cen [] [] 0 0 (poly_Chord_x v9) (poly_Chord_o v9) [11, 12, 13] [])), (7, dex (cen [] [] 0 0 (ref09_Chord_x v11) (ref09_Chord_o v11) [15, 16, 17] [])), (9, dfx true), (10, dex (cen [] [] 0 0 (law09_awake_x v14) (law09_awake_o v14) [20] []))] [] 0 ⟨[(6, vb v14)], []⟩ (o1 (And.intro (callS (K := (kx E 23 0)) ⟨[(11, vc (tl e_Point default a1)), (12, vi a2), (13, vi a3)], []⟩ (opAt (rg Tryd.f7 14) 3) [] [] 0 o0 rfl (poly_Chord_ok a1 a2 a3 v9 h10) (.inl rfl) (by kernel_rfl)) (And.intro (callS (K := (kx E 23 0)) ⟨[(15, vc (tl e_Point default a1)), (16, vi a2), (17, vi a3)], []⟩ (opAt (rg Tryd.f7 14) 7) [] [] 0 o0 rfl (ref09_Chord_ok a1 a2 a3 v11 h12) (.inl rfl) (by kernel_rfl)) (And.intro b13 (callS (K := (kx E 23 0)) ⟨[(20, vb true)], []⟩ (opAt (rg Tryd.f7 14) 10) [] [] 0 o0 rfl (law09_awake_ok v14 h15) (.inl rfl) (by kernel_rfl)))))) (by kernel_rfl) (by kernel_rfl) ?_
        exact J_mk (v14) hm (by kernel_rfl) (by kernel_rfl)
      · replace hm := bif_f b13 hm
        refine R_rn Tryd.f7 14 3 [(3, dex (cen [] [] 0 0 (poly_Chord_x v9) (poly_Chord_o v9) [11, 12, 13] [])), (7, dex (cen [] [] 0 0 (ref09_Chord_x v11) (ref09_Chord_o v11) [15, 16, 17] [])), (9, dfx false)] [] 0 ⟨[(6, vb false)], []⟩ (o1 (And.intro (callS (K := (kx E 23 0)) ⟨[(11, vc (tl e_Point default a1)), (12, vi a2), (13, vi a3)], []⟩ (opAt (rg Tryd.f7 14) 3) [] [] 0 o0 rfl (poly_Chord_ok a1 a2 a3 v9 h10) (.inl rfl) (by kernel_rfl)) (And.intro (callS (K := (kx E 23 0)) ⟨[(15, vc (tl e_Point default a1)), (16, vi a2), (17, vi a3)], []⟩ (opAt (rg Tryd.f7 14) 7) [] [] 0 o0 rfl (ref09_Chord_ok a1 a2 a3 v11 h12) (.inl rfl) (by kernel_rfl)) b13))) (by kernel_rfl) (by kernel_rfl) ?_
        exact J_mk (false) hm (by kernel_rfl) (by kernel_rfl)

end Saw
end Go.SL
