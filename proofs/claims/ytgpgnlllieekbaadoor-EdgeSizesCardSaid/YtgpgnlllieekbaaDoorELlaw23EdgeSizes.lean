import Derived.Test.YtgpgnlllieekbaaDoorEBase
import Derived.Test.YtgpgnlllieekbaaDoorELlaw19Short
import Derived.Test.YtgpgnlllieekbaaDoorELlaw23awake
import Derived.Test.YtgpgnlllieekbaaDoorEFa7
import Derived.Test.YtgpgnlllieekbaaDoorEFa15
set_option linter.unusedVariables false
set_option linter.unusedSimpArgs false
namespace Go.SL
namespace Saw
open Go.Proofs
set_option maxHeartbeats 4000000

def law23_EdgeSizes_x (r : Bool) : V := vb r

def law23_EdgeSizes_o (r : Bool) : List (Nat × (Nat × O)) := []

theorem law23_EdgeSizes_f (r : Bool) : Frozen (law23_EdgeSizes_o r) := by
  intro i k o h
  unfold law23_EdgeSizes_o at h
  cases h

def law23_EdgeSizes_k1_S (x20 : Bool) : St :=
  ⟨[(4, vb x20)], []⟩

set_option maxRecDepth 100000 in
theorem law23_EdgeSizes_ok (a1 : List Product) (a2 : Int) (r : Bool) (hm : law23_EdgeSizes a1 a2 = some r) : CtX Tryd.prog globs 3 0 0 [.one (tl e_Product default a1), .one (ci a2)] [] (law23_EdgeSizes_x r) (law23_EdgeSizes_o r) := by
  unfold law23_EdgeSizes at hm
  refine CtX_of_E (fn := Tryd.f3) (c := nd Tryd.f3 1) (nt := 36) (by kernel_rfl) (by kernel_rfl) (by kernel_rfl) (by kernel_rfl) fun E => ?_
  refine R_sq Tryd.f3 2 3 (by kernel_rfl) ?_
  refine R_rn Tryd.f3 2 0 [] [] 0 ⟨[(0, vc (tl e_Product default a1)), (1, vi a2)], []⟩ o0 (by kernel_rfl) (by kernel_rfl) ?_
  refine R_sq Tryd.f3 6 7 (by kernel_rfl) ?_
  refine R_sq Tryd.f3 12 13 (by kernel_rfl) ?_
  obtain ⟨v3, h4, hm⟩ := bind_s hm
  refine R_rn Tryd.f3 12 1 [(1, dex (cen [] [] 0 0 (law19_Short_x v3) (law19_Short_o v3) [9] []))] [] 0 ⟨[(0, vc (tl e_Product default a1)), (1, vi a2), (11, vb (!v3))], []⟩ (o1 (callS (K := (kx E 36 0)) ⟨[(9, vc (tl e_Product default a1))], []⟩ (opAt (rg Tryd.f3 12) 1) [] [] 0 o0 rfl (law19_Short_ok a1 v3 h4) (.inl rfl) (by kernel_rfl))) (by kernel_rfl) (by kernel_rfl) ?_
  refine R_cn Tryd.f3 (.tmp 11) 26 27 (by kernel_rfl) (!v3) (by kernel_rfl) (fun b5 => ?_) (fun b5 => ?_)
  · replace hm := bif_t b5 hm
    refine R_sq Tryd.f3 52 53 (by kernel_rfl) ?_
    obtain ⟨v6, h7, hm⟩ := bind_s hm
    refine R_rn Tryd.f3 52 2 [(0, dex (cen [] [] 0 0 (law23_awake_x v6) (law23_awake_o v6) [] []))] [] 0 ⟨[(4, vb v6)], []⟩ (o1 (callS (K := (kx E 36 0)) ⟨[], []⟩ (opAt (rg Tryd.f3 52) 0) [] [] 0 o0 rfl (law23_awake_ok v6 h7) (.inl rfl) (by kernel_rfl))) (by kernel_rfl) (by kernel_rfl) ?_
    obtain rfl := Option.some.inj hm
    refine R_ret (by kernel_rfl) ?_
    exact ret_mk (by kernel_rfl) (by kernel_rfl)
  · replace hm := bif_f b5 hm
    refine R_skip (by kernel_rfl) ?_
    refine R_sq Tryd.f3 14 15 (by kernel_rfl) ?_
    obtain ⟨v8, h9, hm⟩ := bind_s hm
    refine R_rn Tryd.f3 14 3 [(2, dex (cen [] [] 0 0 (edge_Sizes_x v8) (edge_Sizes_o v8) [14, 15] []))] [] 0 ⟨[(0, vc (tl e_Product default a1)), (1, vi a2), (5, vo 0 0 1 v8.1.length), (6, vo 1 0 1 v8.2.length)], [(0, ro 0 3 1 v8.1.length (rf e_i64 v8.1)), (1, ro 0 3 1 v8.2.length (rf e_i64 v8.2))]⟩ (o1 (callS (K := (kx E 36 0)) ⟨[(14, vc (tl e_Product default a1)), (15, vi a2)], []⟩ (opAt (rg Tryd.f3 14) 2) [] [] 0 o0 rfl (edge_Sizes_ok a1 a2 v8 h9) (.inl rfl) (by kernel_rfl))) (by kernel_rfl) (by kernel_rfl) ?_
    refine R_sq Tryd.f3 30 31 (by kernel_rfl) ?_
    obtain ⟨v10, h11, hm⟩ := bind_s hm
    refine R_rn Tryd.f3 30 4 [(2, dex (cen [] [] 2 0 (ref23_Sizes_x v10) (ref23_Sizes_o v10) [20, 21] []))] [] 2 ⟨[(5, vo 0 0 1 v8.1.length), (6, vo 1 0 1 v8.2.length), (7, vo 2 0 1 v10.1.length), (8, vo 3 0 1 v10.2.length)], [(0, ro 0 3 1 v8.1.length (rf e_i64 v8.1)), (1, ro 0 3 1 v8.2.length (rf e_i64 v8.2)), (2, ro 0 3 1 v10.1.length (rf e_i64 v10.1)), (3, ro 0 3 1 v10.2.length (rf e_i64 v10.2))]⟩ (o1 (callS (K := (kx E 36 0)) ⟨[(20, vc (tl e_Product default a1)), (21, vi a2)], []⟩ (opAt (rg Tryd.f3 30) 2) [] [] 2 o0 rfl (ref23_Sizes_ok a1 a2 v10 h11) (.inl rfl) (by kernel_rfl))) (by kernel_rfl) (by kernel_rfl) ?_
    refine R_join (ι := Bool) (nd Tryd.f3 62) (nd Tryd.f3 63) (by kernel_rfl) (fun p => law23_EdgeSizes_k1_S p) (fun p => law23_EdgeSizes_k1 p = some r) ?_ ?_
    · rintro x20 hm
      show H _ (law23_EdgeSizes_k1_S x20) (nd Tryd.f3 63) _
      obtain rfl := Option.some.inj hm
      refine R_ret (by kernel_rfl) ?_
      exact ret_mk (by kernel_rfl) (by kernel_rfl)
    · obtain ⟨v12, h13, hm⟩ := bind_s hm
      rcases Bool.eq_false_or_eq_true v12 with b14 | b14
      · replace hm := bif_t b14 hm
        obtain ⟨v15, h16, hm⟩ := bind_s hm
        rcases Bool.eq_false_or_eq_true v15 with b17 | b17
        · replace hm := bif_t b17 hm
          obtain ⟨v18, h19, hm⟩ := bind_s hm
          refine R_rn Tryd.f3 62 5 [(2, dex (cen [] [] 4 0 (ref05_Same_x v12) (ref05_Same_o v12) [25, 26] [0, 2])), (3, dfx true), (6, dex (cen [] [] 4 0 (ref05_Same_x v15) (ref05_Same_o v15) [28, 29, 30] [1, 3])), (8, dfx true), (9, dex (cen [] [] 4 0 (law23_awake_x v18) (law23_awake_o v18) [33] []))] [] 4 ⟨[(4, vb v18)], []⟩ (o1 (And.intro (callS (K := (kx E 36 0)) (b := false) ⟨[(25, vo 0 0 1 v8.1.length), (26, vo 2 0 1 v10.1.length)], [(0, ro 0 3 1 v8.1.length (rf e_i64 v8.1)), (2, ro 0 3 1 v10.1.length (rf e_i64 v10.1))]⟩ (opAt (rg Tryd.f3 62) 2) [] [] 4 (o1 (And.intro (Nat.le_refl v8.1.length) (Nat.le_refl v10.1.length))) rfl (ref05_Same_ok v8.1 v10.1 v12 h13) (.inr ⟨(by kernel_rfl), ref05_Same_f v12⟩) (by kernel_rfl)) (And.intro b14 (And.intro (callS (K := (kx E 36 0)) (b := false) ⟨[(28, vb true), (29, vo 1 0 1 v8.2.length), (30, vo 3 0 1 v10.2.length)], [(1, ro 0 3 1 v8.2.length (rf e_i64 v8.2)), (3, ro 0 3 1 v10.2.length (rf e_i64 v10.2))]⟩ (opAt (rg Tryd.f3 62) 6) [] [] 4 (o1 (And.intro (Nat.le_refl v8.2.length) (Nat.le_refl v10.2.length))) rfl (ref05_Same_ok v8.2 v10.2 v15 h16) (.inr ⟨(by kernel_rfl), ref05_Same_f v15⟩) (by kernel_rfl)) (And.intro b17 (callS (K := (kx E 36 0)) ⟨[(33, vb true)], []⟩ (opAt (rg Tryd.f3 62) 9) [] [] 4 o0 rfl (law23_awake_ok v18 h19) (.inl rfl) (by kernel_rfl))))))) (by kernel_rfl) (by kernel_rfl) ?_
          exact J_mk (v18) hm (by kernel_rfl) (by kernel_rfl)
        · replace hm := bif_f b17 hm
          refine R_rn Tryd.f3 62 5 [(2, dex (cen [] [] 4 0 (ref05_Same_x v12) (ref05_Same_o v12) [25, 26] [0, 2])), (3, dfx true), (6, dex (cen [] [] 4 0 (ref05_Same_x v15) (ref05_Same_o v15) [28, 29, 30] [1, 3])), (8, dfx false)] [] 4 ⟨[(4, vb false)], []⟩ (o1 (And.intro (callS (K := (kx E 36 0)) (b := false) ⟨[(25, vo 0 0 1 v8.1.length), (26, vo 2 0 1 v10.1.length)], [(0, ro 0 3 1 v8.1.length (rf e_i64 v8.1)), (2, ro 0 3 1 v10.1.length (rf e_i64 v10.1))]⟩ (opAt (rg Tryd.f3 62) 2) [] [] 4 (o1 (And.intro (Nat.le_refl v8.1.length) (Nat.le_refl v10.1.length))) rfl (ref05_Same_ok v8.1 v10.1 v12 h13) (.inr ⟨(by kernel_rfl), ref05_Same_f v12⟩) (by kernel_rfl)) (And.intro b14 (And.intro (callS (K := (kx E 36 0)) (b := false) ⟨[(28, vb true), (29, vo 1 0 1 v8.2.length), (30, vo 3 0 1 v10.2.length)], [(1, ro 0 3 1 v8.2.length (rf e_i64 v8.2)), (3, ro 0 3 1 v10.2.length (rf e_i64 v10.2))]⟩ (opAt (rg Tryd.f3 62) 6) [] [] 4 (o1 (And.intro (Nat.le_refl v8.2.length) (Nat.le_refl v10.2.length))) rfl (ref05_Same_ok v8.2 v10.2 v15 h16) (.inr ⟨(by kernel_rfl), ref05_Same_f v15⟩) (by kernel_rfl)) b17)))) (by kernel_rfl) (by kernel_rfl) ?_
          exact J_mk (false) hm (by kernel_rfl) (by kernel_rfl)
      · replace hm := bif_f b14 hm
        refine R_rn Tryd.f3 62 5 [(2, dex (cen [] [] 4 0 (ref05_Same_x v12) (ref05_Same_o v12) [25, 26] [0, 2])), (3, dfx false)] [] 4 ⟨[(4, vb false)], []⟩ (o1 (And.intro (callS (K := (kx E 36 0)) (b := false) ⟨[(25, vo 0 0 1 v8.1.length), (26, vo 2 0 1 v10.1.length)], [(0, ro 0 3 1 v8.1.length (rf e_i64 v8.1)), (2, ro 0 3 1 v10.1.length (rf e_i64 v10.1))]⟩ (opAt (rg Tryd.f3 62) 2) [] [] 4 (o1 (And.intro (Nat.le_refl v8.1.length) (Nat.le_refl v10.1.length))) rfl (ref05_Same_ok v8.1 v10.1 v12 h13) (.inr ⟨(by kernel_rfl), ref05_Same_f v12⟩) (by kernel_rfl)) b14)) (by kernel_rfl) (by kernel_rfl) ?_
        exact J_mk (false) hm (by kernel_rfl) (by kernel_rfl)

end Saw
end Go.SL
