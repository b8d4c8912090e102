import Derived.Test.YtcppgjcniljkcaaDoorPBase
import Derived.Test.YtcppgjcniljkcaaDoorPLlaw09awake
import Derived.Test.YtcppgjcniljkcaaDoorPFa3
import Derived.Test.YtcppgjcniljkcaaDoorPFa4
import Derived.Test.YtcppgjcniljkcaaDoorPLlaw09inside
set_option linter.unusedVariables false
set_option linter.unusedSimpArgs false
namespace Go.SL
namespace Saw
open Go.Proofs
set_option maxHeartbeats 4000000

def law09_PolyChord_x (r : Bool) : V := vb r

def law09_PolyChord_o (r : Bool) : List (Nat × (Nat × O)) := []

theorem law09_PolyChord_f (r : Bool) : Frozen (law09_PolyChord_o r) := by
  intro i k o h
  unfold law09_PolyChord_o at h
  cases h

def law09_PolyChord_k2_S (x29 : Bool) : St :=
  ⟨[(6, vb x29)], []⟩

def law09_PolyChord_k3_S (x43 : Bool) : St :=
  ⟨[(6, vb x43)], []⟩

def law09_PolyChord_k1_S (a1 : List Point) (a2 : List Int) (a3 : Int) (x9 : Bool) : St :=
  ⟨[(0, vc (tl e_Point default a1)), (2, vi a3), (7, vi (a2.getD 0 default)), (8, vi (a2.getD 1 default)), (30, vb x9)], []⟩

set_option maxRecDepth 100000 in
theorem law09_PolyChord_ok (a1 : List Point) (a2 : List Int) (a3 : Int) (r : Bool) (hm : law09_PolyChord a1 a2 a3 = some r) : CtX Tryd.prog globs 10 0 0 [.one (tl e_Point default a1), .agg [ci (a2.getD 0 default), ci (a2.getD 1 default)], .one (ci a3)] [] (law09_PolyChord_x r) (law09_PolyChord_o r) := by
  unfold law09_PolyChord at hm
  refine CtX_of_E (fn := Tryd.f10) (c := nd Tryd.f10 1) (nt := 109) (by kernel_rfl) (by kernel_rfl) (by kernel_rfl) (by kernel_rfl) fun E => ?_
  refine R_sq Tryd.f10 2 3 (by kernel_rfl) ?_
  refine R_rn Tryd.f10 2 0 [] [] 0 ⟨[(0, vc (tl e_Point default a1)), (2, vi a3), (4, vp 0 0)], [(0, bx 46 [ci (a2.getD 0 default), ci (a2.getD 1 default)])]⟩ o0 (by kernel_rfl) (by kernel_rfl) ?_
  refine R_sq Tryd.f10 6 7 (by kernel_rfl) ?_
  refine R_dr Tryd.f10 6 1 [] [] [] [0, 1, 0, 4, 3, 31] 1 ⟨[(0, vc (tl e_Point default a1)), (2, vi a3), (7, vi (a2.getD 0 default)), (8, vi (a2.getD 1 default))], []⟩ (o1 (And.intro (show 0 ≤ (0 : Int) ∧ (0 : Int) < ((2 : Nat) : Int) by decide) (show 0 ≤ (1 : Int) ∧ (1 : Int) < ((2 : Nat) : Int) by decide))) (by kernel_rfl) (by kernel_rfl) ?_
  refine R_sq Tryd.f10 14 15 (by kernel_rfl) ?_
  refine R_join (ι := Bool) (nd Tryd.f10 28) (nd Tryd.f10 29) (by kernel_rfl) (fun p => law09_PolyChord_k1_S a1 a2 a3 p) (fun p => law09_PolyChord_k1 a1 a2 a3 p = some r) ?_ ?_
  · rintro x9 hm
    show H _ (law09_PolyChord_k1_S a1 a2 a3 x9) (nd Tryd.f10 29) _
    refine R_cn Tryd.f10 (.tmp 30) 58 59 (by kernel_rfl) x9 (by kernel_rfl) (fun b10 => ?_) (fun b10 => ?_)
    · replace hm := bif_t b10 hm
      refine R_sq Tryd.f10 116 117 (by kernel_rfl) ?_
      obtain ⟨v11, h12, hm⟩ := bind_s hm
      refine R_rn Tryd.f10 116 3 [(0, dex (cen [] [] 1 0 (law09_awake_x v11) (law09_awake_o v11) [] []))] [] 1 ⟨[(6, vb v11)], []⟩ (o1 (callS (K := (kx E 109 0)) ⟨[], []⟩ (opAt (rg Tryd.f10 116) 0) [] [] 1 o0 rfl (law09_awake_ok v11 h12) (.inl rfl) (by kernel_rfl))) (by kernel_rfl) (by kernel_rfl) ?_
      obtain rfl := Option.some.inj hm
      refine R_ret (by kernel_rfl) ?_
      exact ret_mk (by kernel_rfl) (by kernel_rfl)
    · replace hm := bif_f b10 hm
      refine R_skip (by kernel_rfl) ?_
      refine R_sq Tryd.f10 30 31 (by kernel_rfl) ?_
      obtain ⟨v13, h14, hm⟩ := bind_s hm
      refine R_rn Tryd.f10 30 4 [(1, dex (cen [] [] 1 0 (poly_Hull_x v13) (poly_Hull_o v13) [32] []))] [] 1 ⟨[(0, vc (tl e_Point default a1)), (2, vi a3), (7, vi (a2.getD 0 default)), (8, vi (a2.getD 1 default)), (9, vo 1 0 2 v13.length)], [(1, ro 0 38 2 v13.length (rf e_Point v13))]⟩ (o1 (callS (K := (kx E 109 0)) ⟨[(32, vc (tl e_Point default a1))], []⟩ (opAt (rg Tryd.f10 30) 1) [] [] 1 o0 rfl (poly_Hull_ok a1 v13 h14) (.inl rfl) (by kernel_rfl))) (by kernel_rfl) (by kernel_rfl) ?_
      refine R_sq Tryd.f10 62 63 (by kernel_rfl) ?_
      obtain ⟨v15, h16, hm⟩ := bind_s hm
      refine R_rn Tryd.f10 62 5 [(3, dex (cen [] [] 2 0 (poly_Chord_x v15) (poly_Chord_o v15) [34, 35, 36] []))] [] 2 ⟨[(2, vi a3), (7, vi (a2.getD 0 default)), (8, vi (a2.getD 1 default)), (9, vo 1 0 2 v13.length), (10, vp 2 0)], [(1, ro 0 38 2 v13.length (rf e_Point v13)), (2, bx 29 [ci v15.A, ci v15.B])]⟩ (o1 (callS (K := (kx E 109 0)) ⟨[(34, vc (tl e_Point default a1)), (35, vi (a2.getD 0 default)), (36, vi (a2.getD 1 default))], []⟩ (opAt (rg Tryd.f10 62) 3) [] [] 2 o0 rfl (poly_Chord_ok a1 (a2.getD 0 default) (a2.getD 1 default) v15 h16) (.inl rfl) (by kernel_rfl))) (by kernel_rfl) (by kernel_rfl) ?_
      refine R_sq Tryd.f10 126 127 (by kernel_rfl) ?_
      refine R_sq Tryd.f10 252 253 (by kernel_rfl) ?_
      refine R_rn Tryd.f10 252 6 [] [] 3 ⟨[(2, vi a3), (7, vi (a2.getD 0 default)), (8, vi (a2.getD 1 default)), (9, vo 1 0 2 v13.length), (10, vp 2 0), (40, vb ((v15.A == 0) && ((v15.B == 0) && true)))], [(1, ro 0 38 2 v13.length (rf e_Point v13)), (2, bx 29 [ci v15.A, ci v15.B])]⟩ o0 (by kernel_rfl) (by kernel_rfl) ?_
      refine R_cn Tryd.f10 (.tmp 40) 506 507 (by kernel_rfl) ((v15.A == 0) && ((v15.B == 0) && true)) (by kernel_rfl) (fun b17 => ?_) (fun b17 => ?_)
      · replace hm := bif_t b17 hm
        refine R_join (ι := Bool) (nd Tryd.f10 1012) (nd Tryd.f10 1013) (by kernel_rfl) (fun p => law09_PolyChord_k2_S p) (fun p => law09_PolyChord_k2 p = some r) ?_ ?_
        · rintro x29 hm
          show H _ (law09_PolyChord_k2_S x29) (nd Tryd.f10 1013) _
          obtain rfl := Option.some.inj hm
          refine R_ret (by kernel_rfl) ?_
          exact ret_mk (by kernel_rfl) (by kernel_rfl)
        · rcases Bool.eq_false_or_eq_true (((v13.length : Nat) : Int) == 0) with b18 | b18
          · replace hm := bif_t b18 hm
            obtain ⟨v19, h20, hm⟩ := bind_s hm
            refine R_rn Tryd.f10 1012 7 [(3, dfx true), (19, dex (cen [] [] 3 0 (law09_awake_x v19) (law09_awake_o v19) [59] []))] [] 3 ⟨[(6, vb v19)], []⟩ (o1 (And.intro b18 (callS (K := (kx E 109 0)) ⟨[(59, vb true)], []⟩ (opAt (rg Tryd.f10 1012) 19) [] [] 3 o0 rfl (law09_awake_ok v19 h20) (.inl rfl) (by kernel_rfl)))) (by kernel_rfl) (by kernel_rfl) ?_
            exact J_mk (v19) hm (by kernel_rfl) (by kernel_rfl)
          · replace hm := bif_f b18 hm
            rcases Bool.eq_false_or_eq_true (decide ((a2.getD 0 default) ≥ (a2.getD 1 default))) with b21 | b21
            · replace hm := bif_t b21 hm
              obtain ⟨v22, h23, hm⟩ := bind_s hm
              refine R_rn Tryd.f10 1012 7 [(3, dfx false), (8, dfx true), (19, dex (cen [] [] 3 0 (law09_awake_x v22) (law09_awake_o v22) [59] []))] [] 3 ⟨[(6, vb v22)], []⟩ (o1 (And.intro b18 (And.intro b21 (callS (K := (kx E 109 0)) ⟨[(59, vb true)], []⟩ (opAt (rg Tryd.f10 1012) 19) [] [] 3 o0 rfl (law09_awake_ok v22 h23) (.inl rfl) (by kernel_rfl))))) (by kernel_rfl) (by kernel_rfl) ?_
              exact J_mk (v22) hm (by kernel_rfl) (by kernel_rfl)
            · replace hm := bif_f b21 hm
              obtain ⟨v24, h25, hm⟩ := bind_s hm
              rcases Bool.eq_false_or_eq_true (!v24) with b26 | b26
              · replace hm := bif_t b26 hm
                obtain ⟨v27, h28, hm⟩ := bind_s hm
                refine R_rn Tryd.f10 1012 7 [(3, dfx false), (8, dfx false), (15, dex (cen [] [] 3 0 (law09_inside_x v24) (law09_inside_o v24) [49, 50, 51, 53, 54, 55] [1])), (18, dfx true), (19, dex (cen [] [] 3 0 (law09_awake_x v27) (law09_awake_o v27) [59] []))] [] 3 ⟨[(6, vb v27)], []⟩ (o1 (And.intro b18 (And.intro b21 (And.intro (callS (K := (kx E 109 0)) (b := false) ⟨[(49, vb false), (50, vo 1 0 2 v13.length), (51, vi a3), (53, vi (w64 (a3 + 1))), (54, vi (a2.getD 0 default)), (55, vi (a2.getD 1 default))], [(1, ro 0 38 2 v13.length (rf e_Point v13))]⟩ (opAt (rg Tryd.f10 1012) 15) [] [] 3 (o1 (Nat.le_refl v13.length)) rfl (law09_inside_ok v13 a3 (w64 (a3 + 1)) (a2.getD 0 default) (a2.getD 1 default) v24 h25) (.inr ⟨(by kernel_rfl), law09_inside_f v24⟩) (by kernel_rfl)) (And.intro b26 (callS (K := (kx E 109 0)) ⟨[(59, vb true)], []⟩ (opAt (rg Tryd.f10 1012) 19) [] [] 3 o0 rfl (law09_awake_ok v27 h28) (.inl rfl) (by kernel_rfl))))))) (by kernel_rfl) (by kernel_rfl) ?_
                exact J_mk (v27) hm (by kernel_rfl) (by kernel_rfl)
              · replace hm := bif_f b26 hm
                refine R_rn Tryd.f10 1012 7 [(3, dfx false), (8, dfx false), (15, dex (cen [] [] 3 0 (law09_inside_x v24) (law09_inside_o v24) [49, 50, 51, 53, 54, 55] [1])), (18, dfx false)] [] 3 ⟨[(6, vb false)], []⟩ (o1 (And.intro b18 (And.intro b21 (And.intro (callS (K := (kx E 109 0)) (b := false) ⟨[(49, vb false), (50, vo 1 0 2 v13.length), (51, vi a3), (53, vi (w64 (a3 + 1))), (54, vi (a2.getD 0 default)), (55, vi (a2.getD 1 default))], [(1, ro 0 38 2 v13.length (rf e_Point v13))]⟩ (opAt (rg Tryd.f10 1012) 15) [] [] 3 (o1 (Nat.le_refl v13.length)) rfl (law09_inside_ok v13 a3 (w64 (a3 + 1)) (a2.getD 0 default) (a2.getD 1 default) v24 h25) (.inr ⟨(by kernel_rfl), law09_inside_f v24⟩) (by kernel_rfl)) b26)))) (by kernel_rfl) (by kernel_rfl) ?_
                exact J_mk (false) hm (by kernel_rfl) (by kernel_rfl)
      · replace hm := bif_f b17 hm
        refine R_skip (by kernel_rfl) ?_
        refine R_join (ι := Bool) (nd Tryd.f10 254) (nd Tryd.f10 255) (by kernel_rfl) (fun p => law09_PolyChord_k3_S p) (fun p => law09_PolyChord_k3 p = some r) ?_ ?_
        · rintro x43 hm
          show H _ (law09_PolyChord_k3_S x43) (nd Tryd.f10 255) _
          obtain rfl := Option.some.inj hm
          refine R_ret (by kernel_rfl) ?_
          exact ret_mk (by kernel_rfl) (by kernel_rfl)
        · rcases Bool.eq_false_or_eq_true (decide (v15.A < v15.B)) with b30 | b30
          · replace hm := bif_t b30 hm
            rcases Bool.eq_false_or_eq_true (decide ((a2.getD 0 default) < (a2.getD 1 default))) with b31 | b31
            · replace hm := bif_t b31 hm
              obtain ⟨v32, h33, hm⟩ := bind_s hm
              rcases Bool.eq_false_or_eq_true v32 with b34 | b34
              · replace hm := bif_t b34 hm
                obtain ⟨v35, h36, hm⟩ := bind_s hm
                rcases Bool.eq_false_or_eq_true (!v35) with b37 | b37
                · replace hm := bif_t b37 hm
                  obtain ⟨v38, h39, hm⟩ := bind_s hm
                  rcases Bool.eq_false_or_eq_true (!v38) with b40 | b40
                  · replace hm := bif_t b40 hm
                    obtain ⟨v41, h42, hm⟩ := bind_s hm
                    refine R_rn Tryd.f10 254 8 [(5, dfx true), (10, dfx true), (18, dex (cen [] [] 3 0 (law09_inside_x v32) (law09_inside_o v32) [72, 73, 75, 77, 78, 79] [1])), (20, dfx true), (29, dex (cen [] [] 3 0 (law09_inside_x v35) (law09_inside_o v35) [82, 83, 86, 88, 89, 90] [1])), (32, dfx true), (41, dex (cen [] [] 3 0 (law09_inside_x v38) (law09_inside_o v38) [94, 95, 97, 100, 101, 102] [1])), (44, dfx true), (45, dex (cen [] [] 3 0 (law09_awake_x v41) (law09_awake_o v41) [106] []))] [] 3 ⟨[(6, vb v41)], []⟩ (o1 (And.intro b30 (And.intro b31 (And.intro (callS (K := (kx E 109 0)) (b := false) ⟨[(72, vb true), (73, vo 1 0 2 v13.length), (75, vi v15.A), (77, vi v15.B), (78, vi (a2.getD 0 default)), (79, vi (a2.getD 1 default))], [(1, ro 0 38 2 v13.length (rf e_Point v13))]⟩ (opAt (rg Tryd.f10 254) 18) [] [] 3 (o1 (Nat.le_refl v13.length)) rfl (law09_inside_ok v13 v15.A v15.B (a2.getD 0 default) (a2.getD 1 default) v32 h33) (.inr ⟨(by kernel_rfl), law09_inside_f v32⟩) (by kernel_rfl)) (And.intro b34 (And.intro (callS (K := (kx E 109 0)) (b := false) ⟨[(82, vb true), (83, vo 1 0 2 v13.length), (86, vi (w64 (v15.A - 1))), (88, vi v15.B), (89, vi (a2.getD 0 default)), (90, vi (a2.getD 1 default))], [(1, ro 0 38 2 v13.length (rf e_Point v13))]⟩ (opAt (rg Tryd.f10 254) 29) [] [] 3 (o1 (Nat.le_refl v13.length)) rfl (law09_inside_ok v13 (w64 (v15.A - 1)) v15.B (a2.getD 0 default) (a2.getD 1 default) v35 h36) (.inr ⟨(by kernel_rfl), law09_inside_f v35⟩) (by kernel_rfl)) (And.intro b37 (And.intro (callS (K := (kx E 109 0)) (b := false) ⟨[(94, vb true), (95, vo 1 0 2 v13.length), (97, vi v15.A), (100, vi (w64 (v15.B + 1))), (101, vi (a2.getD 0 default)), (102, vi (a2.getD 1 default))], [(1, ro 0 38 2 v13.length (rf e_Point v13))]⟩ (opAt (rg Tryd.f10 254) 41) [] [] 3 (o1 (Nat.le_refl v13.length)) rfl (law09_inside_ok v13 v15.A (w64 (v15.B + 1)) (a2.getD 0 default) (a2.getD 1 default) v38 h39) (.inr ⟨(by kernel_rfl), law09_inside_f v38⟩) (by kernel_rfl)) (And.intro b40 (callS (K := (kx E 109 0)) ⟨[(106, vb true)], []⟩ (opAt (rg Tryd.f10 254) 45) [] [] 3 o0 rfl (law09_awake_ok v41 h42) (.inl rfl) (by kernel_rfl))))))))))) (by kernel_rfl) (by kernel_rfl) ?_
                    exact J_mk (v41) hm (by kernel_rfl) (by kernel_rfl)
                  · replace hm := bif_f b40 hm
                    refine R_rn Tryd.f10 254 8 [(5, dfx true), (10, dfx true), (18, dex (cen [] [] 3 0 (law09_inside_x v32) (law09_inside_o v32) [72, 73, 75, 77, 78, 79] [1])), (20, dfx true), (29, dex (cen [] [] 3 0 (law09_inside_x v35) (law09_inside_o v35) [82, 83, 86, 88, 89, 90] [1])), (32, dfx true), (41, dex (cen [] [] 3 0 (law09_inside_x v38) (law09_inside_o v38) [94, 95, 97, 100, 101, 102] [1])), (44, dfx false)] [] 3 ⟨[(6, vb false)], []⟩ (o1 (And.intro b30 (And.intro b31 (And.intro (callS (K := (kx E 109 0)) (b := false) ⟨[(72, vb true), (73, vo 1 0 2 v13.length), (75, vi v15.A), (77, vi v15.B), (78, vi (a2.getD 0 default)), (79, vi (a2.getD 1 default))], [(1, ro 0 38 2 v13.length (rf e_Point v13))]⟩ (opAt (rg Tryd.f10 254) 18) [] [] 3 (o1 (Nat.le_refl v13.length)) rfl (law09_inside_ok v13 v15.A v15.B (a2.getD 0 default) (a2.getD 1 default) v32 h33) (.inr ⟨(by kernel_rfl), law09_inside_f v32⟩) (by kernel_rfl)) (And.intro b34 (And.intro (callS (K := (kx E 109 0)) (b := false) ⟨[(82, vb true), (83, vo 1 0 2 v13.length), (86, vi (w64 (v15.A - 1))), (88, vi v15.B), (89, vi (a2.getD 0 default)), (90, vi (a2.getD 1 default))], [(1, ro 0 38 2 v13.length (rf e_Point v13))]⟩ (opAt (rg Tryd.f10 254) 29) [] [] 3 (o1 (Nat.le_refl v13.length)) rfl (law09_inside_ok v13 (w64 (v15.A - 1)) v15.B (a2.getD 0 default) (a2.getD 1 default) v35 h36) (.inr ⟨(by kernel_rfl), law09_inside_f v35⟩) (by kernel_rfl)) (And.intro b37 (And.intro (callS (K := (kx E 109 0)) (b := false) ⟨[(94, vb true), (95, vo 1 0 2 v13.length), (97, vi v15.A), (100, vi (w64 (v15.B + 1))), (101, vi (a2.getD 0 default)), (102, vi (a2.getD 1 default))], [(1, ro 0 38 2 v13.length (rf e_Point v13))]⟩ (opAt (rg Tryd.f10 254) 41) [] [] 3 (o1 (Nat.le_refl v13.length)) rfl (law09_inside_ok v13 v15.A (w64 (v15.B + 1)) (a2.getD 0 default) (a2.getD 1 default) v38 h39) (.inr ⟨(by kernel_rfl), law09_inside_f v38⟩) (by kernel_rfl)) b40)))))))) (by kernel_rfl) (by kernel_rfl) ?_
                    exact J_mk (false) hm (by kernel_rfl) (by kernel_rfl)
                · replace hm := bif_f b37 hm
                  refine R_rn Tryd.f10 254 8 [(5, dfx true), (10, dfx true), (18, dex (cen [] [] 3 0 (law09_inside_x v32) (law09_inside_o v32) [72, 73, 75, 77, 78, 79] [1])), (20, dfx true), (29, dex (cen [] [] 3 0 (law09_inside_x v35) (law09_inside_o v35) [82, 83, 86, 88, 89, 90] [1])), (32, dfx false)] [] 3 ⟨[(6, vb false)], []⟩ (o1 (And.intro b30 (And.intro b31 (And.intro (callS (K := (kx E 109 0)) (b := false) ⟨[(72, vb true), (73, vo 1 0 2 v13.length), (75, vi v15.A), (77, vi v15.B), (78, vi (a2.getD 0 default)), (79, vi (a2.getD 1 default))], [(1, ro 0 38 2 v13.length (rf e_Point v13))]⟩ (opAt (rg Tryd.f10 254) 18) [] [] 3 (o1 (Nat.le_refl v13.length)) rfl (law09_inside_ok v13 v15.A v15.B (a2.getD 0 default) (a2.getD 1 default) v32 h33) (.inr ⟨(by kernel_rfl), law09_inside_f v32⟩) (by kernel_rfl)) (And.intro b34 (And.intro (callS (K := (kx E 109 0)) (b := false) ⟨[(82, vb true), (83, vo 1 0 2 v13.length), (86, vi (w64 (v15.A - 1))), (88, vi v15.B), (89, vi (a2.getD 0 default)), (90, vi (a2.getD 1 default))], [(1, ro 0 38 2 v13.length (rf e_Point v13))]⟩ (opAt (rg Tryd.f10 254) 29) [] [] 3 (o1 (Nat.le_refl v13.length)) rfl (law09_inside_ok v13 (w64 (v15.A - 1)) v15.B (a2.getD 0 default) (a2.getD 1 default) v35 h36) (.inr ⟨(by kernel_rfl), law09_inside_f v35⟩) (by kernel_rfl)) b37)))))) (by kernel_rfl) (by kernel_rfl) ?_
                  exact J_mk (false) hm (by kernel_rfl) (by kernel_rfl)
              · replace hm := bif_f b34 hm
                refine R_rn Tryd.f10 254 8 [(5, dfx true), (10, dfx true), (18, dex (cen [] [] 3 0 (law09_inside_x v32) (law09_inside_o v32) [72, 73, 75, 77, 78, 79] [1])), (20, dfx false)] [] 3 ⟨[(6, vb false)], []⟩ (o1 (And.intro b30 (And.intro b31 (And.intro (callS (K := (kx E 109 0)) (b := false) ⟨[(72, vb true), (73, vo 1 0 2 v13.length), (75, vi v15.A), (77, vi v15.B), (78, vi (a2.getD 0 default)), (79, vi (a2.getD 1 default))], [(1, ro 0 38 2 v13.length (rf e_Point v13))]⟩ (opAt (rg Tryd.f10 254) 18) [] [] 3 (o1 (Nat.le_refl v13.length)) rfl (law09_inside_ok v13 v15.A v15.B (a2.getD 0 default) (a2.getD 1 default) v32 h33) (.inr ⟨(by kernel_rfl), law09_inside_f v32⟩) (by kernel_rfl)) b34)))) (by kernel_rfl) (by kernel_rfl) ?_
                exact J_mk (false) hm (by kernel_rfl) (by kernel_rfl)
            · replace hm := bif_f b31 hm
              refine R_rn Tryd.f10 254 8 [(5, dfx true), (10, dfx false)] [] 3 ⟨[(6, vb false)], []⟩ (o1 (And.intro b30 b31)) (by kernel_rfl) (by kernel_rfl) ?_
              exact J_mk (false) hm (by kernel_rfl) (by kernel_rfl)
          · replace hm := bif_f b30 hm
            refine R_rn Tryd.f10 254 8 [(5, dfx false)] [] 3 ⟨[(6, vb false)], []⟩ (o1 b30) (by kernel_rfl) (by kernel_rfl) ?_
            exact J_mk (false) hm (by kernel_rfl) (by kernel_rfl)
  · rcases Bool.eq_false_or_eq_true (decide (((a1.length : Nat) : Int) > 32)) with b4 | b4
    · replace hm := bif_t b4 hm
      refine R_rn Tryd.f10 28 2 [(3, dfx true)] [] 1 ⟨[(0, vc (tl e_Point default a1)), (2, vi a3), (7, vi (a2.getD 0 default)), (8, vi (a2.getD 1 default)), (30, vb true)], []⟩ (o1 b4) (by kernel_rfl) (by kernel_rfl) ?_
      exact J_mk (true) hm (by kernel_rfl) (by kernel_rfl)
    · replace hm := bif_f b4 hm
      obtain ⟨v5, h6, hm⟩ := bind_s hm
      rcases Bool.eq_false_or_eq_true (!v5) with b7 | b7
      · replace hm := bif_t b7 hm
        refine R_rn Tryd.f10 28 2 [(3, dfx false), (5, dex (cen [] [] 1 0 (ref09_Ranged_x v5) (ref09_Ranged_o v5) [18, 19] [])), (8, dfx true)] [] 1 ⟨[(0, vc (tl e_Point default a1)), (2, vi a3), (7, vi (a2.getD 0 default)), (8, vi (a2.getD 1 default)), (30, vb true)], []⟩ (o1 (And.intro b4 (And.intro (callS (K := (kx E 109 0)) ⟨[(18, vb false), (19, vc (tl e_Point default a1))], []⟩ (opAt (rg Tryd.f10 28) 5) [] [] 1 o0 rfl (ref09_Ranged_ok a1 v5 h6) (.inl rfl) (by kernel_rfl)) b7))) (by kernel_rfl) (by kernel_rfl) ?_
        exact J_mk (true) hm (by kernel_rfl) (by kernel_rfl)
      · replace hm := bif_f b7 hm
        rcases Bool.eq_false_or_eq_true (decide (a3 < (-1000))) with b8 | b8
        · replace hm := bif_t b8 hm
          refine R_rn Tryd.f10 28 2 [(3, dfx false), (5, dex (cen [] [] 1 0 (ref09_Ranged_x v5) (ref09_Ranged_o v5) [18, 19] [])), (8, dfx false), (12, dfx true)] [] 1 ⟨[(0, vc (tl e_Point default a1)), (2, vi a3), (7, vi (a2.getD 0 default)), (8, vi (a2.getD 1 default)), (30, vb true)], []⟩ (o1 (And.intro b4 (And.intro (callS (K := (kx E 109 0)) ⟨[(18, vb false), (19, vc (tl e_Point default a1))], []⟩ (opAt (rg Tryd.f10 28) 5) [] [] 1 o0 rfl (ref09_Ranged_ok a1 v5 h6) (.inl rfl) (by kernel_rfl)) (And.intro b7 b8)))) (by kernel_rfl) (by kernel_rfl) ?_
          exact J_mk (true) hm (by kernel_rfl) (by kernel_rfl)
        · replace hm := bif_f b8 hm
          refine R_rn Tryd.f10 28 2 [(3, dfx false), (5, dex (cen [] [] 1 0 (ref09_Ranged_x v5) (ref09_Ranged_o v5) [18, 19] [])), (8, dfx false), (12, dfx false)] [] 1 ⟨[(0, vc (tl e_Point default a1)), (2, vi a3), (7, vi (a2.getD 0 default)), (8, vi (a2.getD 1 default)), (30, vb (decide (a3 > 1000)))], []⟩ (o1 (And.intro b4 (And.intro (callS (K := (kx E 109 0)) ⟨[(18, vb false), (19, vc (tl e_Point default a1))], []⟩ (opAt (rg Tryd.f10 28) 5) [] [] 1 o0 rfl (ref09_Ranged_ok a1 v5 h6) (.inl rfl) (by kernel_rfl)) (And.intro b7 b8)))) (by kernel_rfl) (by kernel_rfl) ?_
          exact J_mk (decide (a3 > 1000)) hm (by kernel_rfl) (by kernel_rfl)

end Saw
end Go.SL
