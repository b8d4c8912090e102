import Derived.Test.YtjelipmghgcpeaaSBase
set_option linter.unusedVariables false
set_option linter.unusedSimpArgs false
namespace Go.SL
namespace Saw
open Go.Proofs
set_option maxHeartbeats 4000000

def poly_cross_x (r : Int) : V := vi r

def poly_cross_o (r : Int) : List (Nat × (Nat × O)) := []

theorem poly_cross_f (r : Int) : Frozen (poly_cross_o r) := by
  intro i k o h
  unfold poly_cross_o at h
  cases h

set_option maxRecDepth 100000 in
theorem poly_cross_ok (a1 : Point) (a2 : Point) (a3 : Point) (r : Int) (hm : poly_cross a1 a2 a3 = some r) : CtX Try.prog globs 77 0 0 [.agg [ci a1.X, ci a1.Y], .agg [ci a2.X, ci a2.Y], .agg [ci a3.X, ci a3.Y]] [] (poly_cross_x r) (poly_cross_o r) := by
  unfold poly_cross at hm
  refine CtX_of_E (fn := Try.f77) (c := nd Try.f77 1) (nt := 30) (by kernel_rfl) (by kernel_rfl) (by kernel_rfl) (by kernel_rfl) fun E => ?_
  refine R_sq Try.f77 2 3 (by kernel_rfl) ?_
  refine R_rn Try.f77 2 0 [] [] 0 ⟨[(3, vp 0 0), (4, vp 1 0), (5, vp 2 0)], [(0, bx 46 [ci a1.X, ci a1.Y]), (1, bx 46 [ci a2.X, ci a2.Y]), (2, bx 46 [ci a3.X, ci a3.Y])]⟩ o0 (by kernel_rfl) (by kernel_rfl) ?_
  refine R_sq Try.f77 6 7 (by kernel_rfl) ?_
  refine R_rn Try.f77 6 1 [] [] 3 ⟨[(6, vi (w64 ((w64 ((w64 (a2.X - a1.X)) * (w64 (a3.Y - a1.Y)))) - (w64 ((w64 (a3.X - a1.X)) * (w64 (a2.Y - a1.Y)))))))], []⟩ o0 (by kernel_rfl) (by kernel_rfl) ?_
  obtain rfl := Option.some.inj hm
  refine R_ret (by kernel_rfl) ?_
  exact ret_mk (by kernel_rfl) (by kernel_rfl)

end Saw
end Go.SL

namespace Go.SL
namespace Saw
open Go.Proofs
set_option maxHeartbeats 4000000

def poly_onEdge_x (r : Bool) : V := vb r

def poly_onEdge_o (r : Bool) : List (Nat × (Nat × O)) := []

theorem poly_onEdge_f (r : Bool) : Frozen (poly_onEdge_o r) := by
  intro i k o h
  unfold poly_onEdge_o at h
  cases h

def poly_onEdge_k1_S (x10 : Bool) : St :=
  ⟨[(6, vb x10)], []⟩

set_option maxRecDepth 100000 in
theorem poly_onEdge_ok (a1 : Point) (a2 : Point) (a3 : Point) (r : Bool) (hm : poly_onEdge a1 a2 a3 = some r) : CtX Try.prog globs 76 0 0 [.agg [ci a1.X, ci a1.Y], .agg [ci a2.X, ci a2.Y], .agg [ci a3.X, ci a3.Y]] [] (poly_onEdge_x r) (poly_onEdge_o r) := by
  unfold poly_onEdge at hm
  refine CtX_of_E (fn := Try.f76) (c := nd Try.f76 1) (nt := 52) (by kernel_rfl) (by kernel_rfl) (by kernel_rfl) (by kernel_rfl) fun E => ?_
  refine R_sq Try.f76 2 3 (by kernel_rfl) ?_
  refine R_rn Try.f76 2 0 [] [] 0 ⟨[(3, vp 0 0), (4, vp 1 0), (5, vp 2 0)], [(0, bx 46 [ci a1.X, ci a1.Y]), (1, bx 46 [ci a2.X, ci a2.Y]), (2, bx 46 [ci a3.X, ci a3.Y])]⟩ o0 (by kernel_rfl) (by kernel_rfl) ?_
  refine R_join (ι := Bool) (nd Try.f76 6) (nd Try.f76 7) (by kernel_rfl) (fun p => poly_onEdge_k1_S p) (fun p => poly_onEdge_k1 p = some r) ?_ ?_
  · rintro x10 hm
    show H _ (poly_onEdge_k1_S x10) (nd Try.f76 7) _
    obtain rfl := Option.some.inj hm
    refine R_ret (by kernel_rfl) ?_
    exact ret_mk (by kernel_rfl) (by kernel_rfl)
  · obtain ⟨v4, h5, hm⟩ := bind_s hm
    rcases Bool.eq_false_or_eq_true (v4 == 0) with b6 | b6
    · replace hm := bif_t b6 hm
      rcases Bool.eq_false_or_eq_true (decide ((imin a1.X a2.X) ≤ a3.X)) with b7 | b7
      · replace hm := bif_t b7 hm
        rcases Bool.eq_false_or_eq_true (decide (a3.X ≤ (imax a1.X a2.X))) with b8 | b8
        · replace hm := bif_t b8 hm
          rcases Bool.eq_false_or_eq_true (decide ((imin a1.Y a2.Y) ≤ a3.Y)) with b9 | b9
          · replace hm := bif_t b9 hm
            refine R_rn Try.f76 6 1 [(3, dex (cen [] [] 3 0 (poly_cross_x v4) (poly_cross_o v4) [7, 8, 9] [])), (5, dfx true), (15, dfx true), (25, dfx true), (35, dfx true)] [] 3 ⟨[(6, vb (decide (a3.Y ≤ (imax a1.Y a2.Y))))], []⟩ (o1 (And.intro (callS (K := (kx E 52 0)) ⟨[(7, va [ci a1.X, ci a1.Y]), (8, va [ci a2.X, ci a2.Y]), (9, va [ci a3.X, ci a3.Y])], []⟩ (opAt (rg Try.f76 6) 3) [] [] 3 o0 rfl (poly_cross_ok a1 a2 a3 v4 h5) (.inl rfl) (by kernel_rfl)) (And.intro b6 (And.intro b7 (And.intro b8 b9))))) (by kernel_rfl) (by kernel_rfl) ?_
            exact J_mk (decide (a3.Y ≤ (imax a1.Y a2.Y))) hm (by kernel_rfl) (by kernel_rfl)
          · replace hm := bif_f b9 hm
            refine R_rn Try.f76 6 1 [(3, dex (cen [] [] 3 0 (poly_cross_x v4) (poly_cross_o v4) [7, 8, 9] [])), (5, dfx true), (15, dfx true), (25, dfx true), (35, dfx false)] [] 3 ⟨[(6, vb false)], []⟩ (o1 (And.intro (callS (K := (kx E 52 0)) ⟨[(7, va [ci a1.X, ci a1.Y]), (8, va [ci a2.X, ci a2.Y]), (9, va [ci a3.X, ci a3.Y])], []⟩ (opAt (rg Try.f76 6) 3) [] [] 3 o0 rfl (poly_cross_ok a1 a2 a3 v4 h5) (.inl rfl) (by kernel_rfl)) (And.intro b6 (And.intro b7 (And.intro b8 b9))))) (by kernel_rfl) (by kernel_rfl) ?_
            exact J_mk (false) hm (by kernel_rfl) (by kernel_rfl)
        · replace hm := bif_f b8 hm
          refine R_rn Try.f76 6 1 [(3, dex (cen [] [] 3 0 (poly_cross_x v4) (poly_cross_o v4) [7, 8, 9] [])), (5, dfx true), (15, dfx true), (25, dfx false)] [] 3 ⟨[(6, vb false)], []⟩ (o1 (And.intro (callS (K := (kx E 52 0)) ⟨[(7, va [ci a1.X, ci a1.Y]), (8, va [ci a2.X, ci a2.Y]), (9, va [ci a3.X, ci a3.Y])], []⟩ (opAt (rg Try.f76 6) 3) [] [] 3 o0 rfl (poly_cross_ok a1 a2 a3 v4 h5) (.inl rfl) (by kernel_rfl)) (And.intro b6 (And.intro b7 b8)))) (by kernel_rfl) (by kernel_rfl) ?_
          exact J_mk (false) hm (by kernel_rfl) (by kernel_rfl)
      · replace hm := bif_f b7 hm
        refine R_rn Try.f76 6 1 [(3, dex (cen [] [] 3 0 (poly_cross_x v4) (poly_cross_o v4) [7, 8, 9] [])), (5, dfx true), (15, dfx false)] [] 3 ⟨[(6, vb false)], []⟩ (o1 (And.intro (callS (K := (kx E 52 0)) ⟨[(7, va [ci a1.X, ci a1.Y]), (8, va [ci a2.X, ci a2.Y]), (9, va [ci a3.X, ci a3.Y])], []⟩ (opAt (rg Try.f76 6) 3) [] [] 3 o0 rfl (poly_cross_ok a1 a2 a3 v4 h5) (.inl rfl) (by kernel_rfl)) (And.intro b6 b7))) (by kernel_rfl) (by kernel_rfl) ?_
        exact J_mk (false) hm (by kernel_rfl) (by kernel_rfl)
    · replace hm := bif_f b6 hm
      refine R_rn Try.f76 6 1 [(3, dex (cen [] [] 3 0 (poly_cross_x v4) (poly_cross_o v4) [7, 8, 9] [])), (5, dfx false)] [] 3 ⟨[(6, vb false)], []⟩ (o1 (And.intro (callS (K := (kx E 52 0)) ⟨[(7, va [ci a1.X, ci a1.Y]), (8, va [ci a2.X, ci a2.Y]), (9, va [ci a3.X, ci a3.Y])], []⟩ (opAt (rg Try.f76 6) 3) [] [] 3 o0 rfl (poly_cross_ok a1 a2 a3 v4 h5) (.inl rfl) (by kernel_rfl)) b6)) (by kernel_rfl) (by kernel_rfl) ?_
      exact J_mk (false) hm (by kernel_rfl) (by kernel_rfl)

end Saw
end Go.SL

namespace Go.SL
namespace Saw
open Go.Proofs
set_option maxHeartbeats 4000000

def poly_within_x (r : Bool) : V := vb r

def poly_within_o (r : Bool) : List (Nat × (Nat × O)) := []

theorem poly_within_f (r : Bool) : Frozen (poly_within_o r) := by
  intro i k o h
  unfold poly_within_o at h
  cases h

def poly_within_k1_S (x3 : Bool) : St :=
  ⟨[(2, vb x3)], []⟩

set_option maxRecDepth 100000 in
theorem poly_within_ok (a1 : Int) (r : Bool) (hm : poly_within a1 = some r) : CtX Try.prog globs 75 0 0 [.one (ci a1)] [] (poly_within_x r) (poly_within_o r) := by
  unfold poly_within at hm
  refine CtX_of_E (fn := Try.f75) (c := nd Try.f75 1) (nt := 9) (by kernel_rfl) (by kernel_rfl) (by kernel_rfl) (by kernel_rfl) fun E => ?_
  refine R_sq Try.f75 2 3 (by kernel_rfl) ?_
  refine R_rn Try.f75 2 0 [] [] 0 ⟨[(0, vi a1)], []⟩ o0 (by kernel_rfl) (by kernel_rfl) ?_
  refine R_join (ι := Bool) (nd Try.f75 6) (nd Try.f75 7) (by kernel_rfl) (fun p => poly_within_k1_S p) (fun p => poly_within_k1 p = some r) ?_ ?_
  · rintro x3 hm
    show H _ (poly_within_k1_S x3) (nd Try.f75 7) _
    obtain rfl := Option.some.inj hm
    refine R_ret (by kernel_rfl) ?_
    exact ret_mk (by kernel_rfl) (by kernel_rfl)
  · rcases Bool.eq_false_or_eq_true (decide (a1 ≥ (-600))) with b2 | b2
    · replace hm := bif_t b2 hm
      refine R_rn Try.f75 6 1 [(2, dfx true)] [] 0 ⟨[(2, vb (decide (a1 ≤ 600)))], []⟩ (o1 b2) (by kernel_rfl) (by kernel_rfl) ?_
      exact J_mk (decide (a1 ≤ 600)) hm (by kernel_rfl) (by kernel_rfl)
    · replace hm := bif_f b2 hm
      refine R_rn Try.f75 6 1 [(2, dfx false)] [] 0 ⟨[(2, vb false)], []⟩ (o1 b2) (by kernel_rfl) (by kernel_rfl) ?_
      exact J_mk (false) hm (by kernel_rfl) (by kernel_rfl)

end Saw
end Go.SL

namespace Go.SL
namespace Saw
open Go.Proofs
set_option maxHeartbeats 4000000

def poly_inRange_x (r : Bool) : V := vb r

def poly_inRange_o (r : Bool) : List (Nat × (Nat × O)) := []

theorem poly_inRange_f (r : Bool) : Frozen (poly_inRange_o r) := by
  intro i k o h
  unfold poly_inRange_o at h
  cases h

def poly_inRange_k2_S (a1 : List Point) (x2 : Int) (x10 : Bool) : St :=
  ⟨[(5, vc (tl e_Point default a1)), (6, vi ((a1.length : Nat) : Int)), (7, vi x2), (20, vb x10)], []⟩

def poly_inRange_L1_S (a1 : List Point) (x2 : Int) : St :=
  ⟨[(5, vc (tl e_Point default a1)), (6, vi ((a1.length : Nat) : Int)), (7, vi x2)], []⟩

def poly_inRange_L1_T : St :=
  ⟨[], []⟩

set_option maxRecDepth 100000 in
theorem poly_inRange_L1_ok (E : Env 0) (a1 : List Point) : ∀ (n : Nat) (x2 : Int) (res : Bool ⊕ Unit), poly_inRange_L1 a1 n x2 = some res → HL (kx E 22 0) (nd Try.f66 52) (loopQ 0 (fun o => poly_inRange_L1_T) (fun v st => RetQ Try.prog Try.f66 (poly_inRange_x v) (poly_inRange_o v) .ret st) res) n (poly_inRange_L1_S a1 x2) := by
  intro n
  induction n with
  | zero =>
    intro x2 res hm
    cases hm
  | succ n ih =>
    intro x2 res hm
    refine HL_succ ?_
    refine R_sq Try.f66 104 105 (by kernel_rfl) ?_
    refine R_rn Try.f66 104 2 [] [] 0 ⟨[(5, vc (tl e_Point default a1)), (6, vi ((a1.length : Nat) : Int)), (7, vi x2), (8, vb (decide (x2 < ((a1.length : Nat) : Int))))], []⟩ o0 (by kernel_rfl) (by kernel_rfl) ?_
    refine R_sq Try.f66 210 211 (by kernel_rfl) ?_
    refine R_cn Try.f66 (.tmp 8) 420 421 (by kernel_rfl) (decide (x2 < ((a1.length : Nat) : Int))) (by kernel_rfl) (fun b3 => ?_) (fun b3 => ?_)
    · replace hm := bif_t b3 hm
      refine R_skip (by kernel_rfl) ?_
      refine R_sq Try.f66 422 423 (by kernel_rfl) ?_
      refine R_bk Try.f66 1 844 (by kernel_rfl) ?_
      refine R_sq Try.f66 1688 1689 (by kernel_rfl) ?_
      obtain ⟨g4, hm⟩ := bif_n hm
      refine R_rn Try.f66 1688 3 [] [] 0 ⟨[(4, vp 0 0), (5, vc (tl e_Point default a1)), (6, vi ((a1.length : Nat) : Int)), (7, vi x2)], [(0, bx 46 [ci ((a1.getD x2.toNat default).X), ci ((a1.getD x2.toNat default).Y)])]⟩ (o1 (inb_of g4)) (by kernel_rfl) (by kernel_rfl) ?_
      refine R_join (ι := Bool) (nd Try.f66 3378) (nd Try.f66 3379) (by kernel_rfl) (fun p => poly_inRange_k2_S a1 x2 p) (fun p => poly_inRange_k2 x2 (poly_inRange_L1 a1 n) p = some res) ?_ ?_
      · rintro x10 hm
        show H _ (poly_inRange_k2_S a1 x2 x10) (nd Try.f66 3379) _
        refine R_cn Try.f66 (.tmp 20) 6758 6759 (by kernel_rfl) x10 (by kernel_rfl) (fun b11 => ?_) (fun b11 => ?_)
        · replace hm := bif_t b11 hm
          refine R_sq Try.f66 13516 13517 (by kernel_rfl) ?_
          refine R_rn Try.f66 13516 5 [] [] 1 ⟨[(2, vb false)], []⟩ o0 (by kernel_rfl) (by kernel_rfl) ?_
          obtain rfl := Option.some.inj hm
          refine R_ret (by kernel_rfl) ?_
          refine L1_ret false ?_
          exact ret_mk (by kernel_rfl) (by kernel_rfl)
        · replace hm := bif_f b11 hm
          refine R_skip (by kernel_rfl) ?_
          refine R_rn Try.f66 423 6 [] [] 1 ⟨[(5, vc (tl e_Point default a1)), (6, vi ((a1.length : Nat) : Int)), (7, vi (w64 (x2 + 1)))], []⟩ o0 (by kernel_rfl) (by kernel_rfl) ?_
          exact HL_enter (poly_inRange_L1_S a1 (w64 (x2 + 1))) (by kernel_rfl) (by kernel_rfl) (ih (w64 (x2 + 1)) _ hm)
      · obtain ⟨v5, h6, hm⟩ := bind_s hm
        rcases Bool.eq_false_or_eq_true (!v5) with b7 | b7
        · replace hm := bif_t b7 hm
          refine R_rn Try.f66 3378 4 [(2, dex (cen [] [] 1 0 (poly_within_x v5) (poly_within_o v5) [12] [])), (4, dfx true)] [] 1 ⟨[(5, vc (tl e_Point default a1)), (6, vi ((a1.length : Nat) : Int)), (7, vi x2), (20, vb true)], []⟩ (o1 (And.intro (callS (K := (kx E 22 0)) ⟨[(12, vi ((a1.getD x2.toNat default).X))], []⟩ (opAt (rg Try.f66 3378) 2) [] [] 1 o0 rfl (poly_within_ok ((a1.getD x2.toNat default).X) v5 h6) (.inl rfl) (by kernel_rfl)) b7)) (by kernel_rfl) (by kernel_rfl) ?_
          exact J_mk (true) hm (by kernel_rfl) (by kernel_rfl)
        · replace hm := bif_f b7 hm
          obtain ⟨v8, h9, hm⟩ := bind_s hm
          refine R_rn Try.f66 3378 4 [(2, dex (cen [] [] 1 0 (poly_within_x v5) (poly_within_o v5) [12] [])), (4, dfx false), (7, dex (cen [] [] 1 0 (poly_within_x v8) (poly_within_o v8) [15, 17] []))] [] 1 ⟨[(5, vc (tl e_Point default a1)), (6, vi ((a1.length : Nat) : Int)), (7, vi x2), (16, vp 0 1), (17, vi ((a1.getD x2.toNat default).Y)), (18, vb v8), (19, vb (!v8)), (20, vb (!v8))], [(0, bx 46 [ci ((a1.getD x2.toNat default).X), ci ((a1.getD x2.toNat default).Y)])]⟩ (o1 (And.intro (callS (K := (kx E 22 0)) ⟨[(12, vi ((a1.getD x2.toNat default).X))], []⟩ (opAt (rg Try.f66 3378) 2) [] [] 1 o0 rfl (poly_within_ok ((a1.getD x2.toNat default).X) v5 h6) (.inl rfl) (by kernel_rfl)) (And.intro b7 (callS (K := (kx E 22 0)) ⟨[(15, vb false), (17, vi ((a1.getD x2.toNat default).Y))], []⟩ (opAt (rg Try.f66 3378) 7) [] [] 1 o0 rfl (poly_within_ok ((a1.getD x2.toNat default).Y) v8 h9) (.inl rfl) (by kernel_rfl))))) (by kernel_rfl) (by kernel_rfl) ?_
          exact J_mk (!v8) hm (by kernel_rfl) (by kernel_rfl)
    · replace hm := bif_f b3 hm
      refine R_exit 0 (by kernel_rfl) ?_
      obtain rfl := Option.some.inj hm
      exact L1_mk () (by kernel_rfl) (by kernel_rfl)

set_option maxRecDepth 100000 in
theorem poly_inRange_ok (a1 : List Point) (r : Bool) (hm : poly_inRange a1 = some r) : CtX Try.prog globs 66 0 0 [.one (tl e_Point default a1)] [] (poly_inRange_x r) (poly_inRange_o r) := by
  unfold poly_inRange at hm
  refine CtX_of_E (fn := Try.f66) (c := nd Try.f66 1) (nt := 22) (by kernel_rfl) (by kernel_rfl) (by kernel_rfl) (by kernel_rfl) fun E => ?_
  refine R_sq Try.f66 2 3 (by kernel_rfl) ?_
  refine R_rn Try.f66 2 0 [] [] 0 ⟨[(0, vc (tl e_Point default a1))], []⟩ o0 (by kernel_rfl) (by kernel_rfl) ?_
  refine R_sq Try.f66 6 7 (by kernel_rfl) ?_
  refine R_sq Try.f66 12 13 (by kernel_rfl) ?_
  refine R_rn Try.f66 12 1 [] [] 0 ⟨[(5, vc (tl e_Point default a1)), (6, vi ((a1.length : Nat) : Int)), (7, vi 0)], []⟩ o0 (by kernel_rfl) (by kernel_rfl) ?_
  obtain ⟨u14, h13, hm⟩ := bind_s hm
  refine R_loop1 (nd Try.f66 52) 0 (by kernel_rfl) FUEL (fun o => poly_inRange_L1_T) (fun v st => RetQ Try.prog Try.f66 (poly_inRange_x v) (poly_inRange_o v) .ret st) u14 (HL_enter (poly_inRange_L1_S a1 0) (by kernel_rfl) (by kernel_rfl) (poly_inRange_L1_ok E a1 FUEL 0 u14 h13)) ?_ ?_
  · rintro v15 rfl st hr
    obtain rfl := Option.some.inj hm
    exact hr
  · rintro o12 rfl
    replace hm : _ = some r := hm
    refine R_sq Try.f66 14 15 (by kernel_rfl) ?_
    refine R_rn Try.f66 14 7 [] [] 0 ⟨[(2, vb true)], []⟩ o0 (by kernel_rfl) (by kernel_rfl) ?_
    obtain rfl := Option.some.inj hm
    refine R_ret (by kernel_rfl) ?_
    exact ret_mk (by kernel_rfl) (by kernel_rfl)

end Saw
end Go.SL

namespace Go.SL
namespace Saw
open Go.Proofs
set_option maxHeartbeats 4000000

def poly_Area2_x (r : Int) : V := vi r

def poly_Area2_o (r : Int) : List (Nat × (Nat × O)) := []

theorem poly_Area2_f (r : Int) : Frozen (poly_Area2_o r) := by
  intro i k o h
  unfold poly_Area2_o at h
  cases h

def poly_Area2_L2_S (a1 : List Point) (x7 : Int) (x8 : Int) : St :=
  ⟨[(0, vc (tl e_Point default a1)), (3, vi x7), (15, vc (tl e_Point default a1)), (16, vi ((a1.length : Nat) : Int)), (17, vi x8)], []⟩

def poly_Area2_L2_T (x13 : Int) : St :=
  ⟨[(3, vi x13)], []⟩

def poly_Area2_k1_S (a1 : List Point) (x5 : Bool) : St :=
  ⟨[(0, vc (tl e_Point default a1)), (14, vb x5)], []⟩

set_option maxRecDepth 100000 in
theorem poly_Area2_L2_ok (E : Env 0) (a1 : List Point) : ∀ (n : Nat) (x7 : Int) (x8 : Int) (res : Int), poly_Area2_L2 a1 n x7 x8 = some res → HL (kx E 45 0) (nd Try.f78 244) (loopQ0 0 (fun o => poly_Area2_L2_T o) res) n (poly_Area2_L2_S a1 x7 x8) := by
  intro n
  induction n with
  | zero =>
    intro x7 x8 res hm
    cases hm
  | succ n ih =>
    intro x7 x8 res hm
    refine HL_succ ?_
    refine R_sq Try.f78 488 489 (by kernel_rfl) ?_
    refine R_rn Try.f78 488 5 [] [] 0 ⟨[(0, vc (tl e_Point default a1)), (3, vi x7), (15, vc (tl e_Point default a1)), (16, vi ((a1.length : Nat) : Int)), (17, vi x8), (18, vb (decide (x8 < ((a1.length : Nat) : Int))))], []⟩ o0 (by kernel_rfl) (by kernel_rfl) ?_
    refine R_sq Try.f78 978 979 (by kernel_rfl) ?_
    refine R_cn Try.f78 (.tmp 18) 1956 1957 (by kernel_rfl) (decide (x8 < ((a1.length : Nat) : Int))) (by kernel_rfl) (fun b9 => ?_) (fun b9 => ?_)
    · replace hm := bif_t b9 hm
      refine R_skip (by kernel_rfl) ?_
      refine R_sq Try.f78 1958 1959 (by kernel_rfl) ?_
      refine R_bk Try.f78 1 3916 (by kernel_rfl) ?_
      refine R_sq Try.f78 7832 7833 (by kernel_rfl) ?_
      obtain ⟨g10, hm⟩ := bif_n hm
      refine R_rn Try.f78 7832 6 [] [] 0 ⟨[(0, vc (tl e_Point default a1)), (3, vi x7), (4, vi x8), (5, vp 0 0), (15, vc (tl e_Point default a1)), (16, vi ((a1.length : Nat) : Int)), (17, vi x8)], [(0, bx 46 [ci ((a1.getD x8.toNat default).X), ci ((a1.getD x8.toNat default).Y)])]⟩ (o1 (inb_of g10)) (by kernel_rfl) (by kernel_rfl) ?_
      refine R_sq Try.f78 15666 15667 (by kernel_rfl) ?_
      obtain ⟨g11, hm⟩ := bif_n hm
      obtain ⟨g12, hm⟩ := bif_n hm
      refine R_rn Try.f78 15666 7 [] [] 1 ⟨[(0, vc (tl e_Point default a1)), (3, vi x7), (5, vp 0 0), (6, vp 1 0), (15, vc (tl e_Point default a1)), (16, vi ((a1.length : Nat) : Int)), (17, vi x8)], [(0, bx 46 [ci ((a1.getD x8.toNat default).X), ci ((a1.getD x8.toNat default).Y)]), (1, bx 46 [ci ((a1.getD (Int.tmod (w64 (x8 + 1)) ((a1.length : Nat) : Int)).toNat default).X), ci ((a1.getD (Int.tmod (w64 (x8 + 1)) ((a1.length : Nat) : Int)).toNat default).Y)])]⟩ (o1 (And.intro (nz_of g11) (inb_of g12))) (by kernel_rfl) (by kernel_rfl) ?_
      refine R_rn Try.f78 15667 8 [] [] 2 ⟨[(0, vc (tl e_Point default a1)), (3, vi (w64 (x7 + (w64 ((w64 (((a1.getD x8.toNat default).X) * ((a1.getD (Int.tmod (w64 (x8 + 1)) ((a1.length : Nat) : Int)).toNat default).Y))) - (w64 (((a1.getD (Int.tmod (w64 (x8 + 1)) ((a1.length : Nat) : Int)).toNat default).X) * ((a1.getD x8.toNat default).Y)))))))), (15, vc (tl e_Point default a1)), (16, vi ((a1.length : Nat) : Int)), (17, vi x8)], []⟩ o0 (by kernel_rfl) (by kernel_rfl) ?_
      refine R_rn Try.f78 1959 9 [] [] 2 ⟨[(0, vc (tl e_Point default a1)), (3, vi (w64 (x7 + (w64 ((w64 (((a1.getD x8.toNat default).X) * ((a1.getD (Int.tmod (w64 (x8 + 1)) ((a1.length : Nat) : Int)).toNat default).Y))) - (w64 (((a1.getD (Int.tmod (w64 (x8 + 1)) ((a1.length : Nat) : Int)).toNat default).X) * ((a1.getD x8.toNat default).Y)))))))), (15, vc (tl e_Point default a1)), (16, vi ((a1.length : Nat) : Int)), (17, vi (w64 (x8 + 1)))], []⟩ o0 (by kernel_rfl) (by kernel_rfl) ?_
      exact HL_enter (poly_Area2_L2_S a1 (w64 (x7 + (w64 ((w64 (((a1.getD x8.toNat default).X) * ((a1.getD (Int.tmod (w64 (x8 + 1)) ((a1.length : Nat) : Int)).toNat default).Y))) - (w64 (((a1.getD (Int.tmod (w64 (x8 + 1)) ((a1.length : Nat) : Int)).toNat default).X) * ((a1.getD x8.toNat default).Y))))))) (w64 (x8 + 1))) (by kernel_rfl) (by kernel_rfl) (ih (w64 (x7 + (w64 ((w64 (((a1.getD x8.toNat default).X) * ((a1.getD (Int.tmod (w64 (x8 + 1)) ((a1.length : Nat) : Int)).toNat default).Y))) - (w64 (((a1.getD (Int.tmod (w64 (x8 + 1)) ((a1.length : Nat) : Int)).toNat default).X) * ((a1.getD x8.toNat default).Y))))))) (w64 (x8 + 1)) _ hm)
    · replace hm := bif_f b9 hm
      refine R_exit 0 (by kernel_rfl) ?_
      obtain rfl := Option.some.inj hm
      exact L0_mk (by kernel_rfl) (by kernel_rfl)

set_option maxRecDepth 100000 in
theorem poly_Area2_ok (a1 : List Point) (r : Int) (hm : poly_Area2 a1 = some r) : CtX Try.prog globs 78 0 0 [.one (tl e_Point default a1)] [] (poly_Area2_x r) (poly_Area2_o r) := by
  unfold poly_Area2 at hm
  refine CtX_of_E (fn := Try.f78) (c := nd Try.f78 1) (nt := 45) (by kernel_rfl) (by kernel_rfl) (by kernel_rfl) (by kernel_rfl) fun E => ?_
  refine R_sq Try.f78 2 3 (by kernel_rfl) ?_
  refine R_rn Try.f78 2 0 [] [] 0 ⟨[(0, vc (tl e_Point default a1))], []⟩ o0 (by kernel_rfl) (by kernel_rfl) ?_
  refine R_sq Try.f78 6 7 (by kernel_rfl) ?_
  refine R_join (ι := Bool) (nd Try.f78 12) (nd Try.f78 13) (by kernel_rfl) (fun p => poly_Area2_k1_S a1 p) (fun p => poly_Area2_k1 a1 p = some r) ?_ ?_
  · rintro x5 hm
    show H _ (poly_Area2_k1_S a1 x5) (nd Try.f78 13) _
    refine R_cn Try.f78 (.tmp 14) 26 27 (by kernel_rfl) x5 (by kernel_rfl) (fun b6 => ?_) (fun b6 => ?_)
    · replace hm := bif_t b6 hm
      refine R_sq Try.f78 52 53 (by kernel_rfl) ?_
      refine R_rn Try.f78 52 2 [] [] 0 ⟨[(2, vi 0)], []⟩ o0 (by kernel_rfl) (by kernel_rfl) ?_
      obtain rfl := Option.some.inj hm
      refine R_ret (by kernel_rfl) ?_
      exact ret_mk (by kernel_rfl) (by kernel_rfl)
    · replace hm := bif_f b6 hm
      refine R_skip (by kernel_rfl) ?_
      refine R_sq Try.f78 14 15 (by kernel_rfl) ?_
      refine R_rn Try.f78 14 3 [] [] 0 ⟨[(0, vc (tl e_Point default a1)), (3, vi 0)], []⟩ o0 (by kernel_rfl) (by kernel_rfl) ?_
      refine R_sq Try.f78 30 31 (by kernel_rfl) ?_
      refine R_sq Try.f78 60 61 (by kernel_rfl) ?_
      refine R_rn Try.f78 60 4 [] [] 0 ⟨[(0, vc (tl e_Point default a1)), (3, vi 0), (15, vc (tl e_Point default a1)), (16, vi ((a1.length : Nat) : Int)), (17, vi 0)], []⟩ o0 (by kernel_rfl) (by kernel_rfl) ?_
      obtain ⟨o14, h15, hm⟩ := bind_s hm
      refine R_loop0 (nd Try.f78 244) 0 (by kernel_rfl) FUEL (fun o => poly_Area2_L2_T o) o14 (HL_enter (poly_Area2_L2_S a1 0 0) (by kernel_rfl) (by kernel_rfl) (poly_Area2_L2_ok E a1 FUEL 0 0 o14 h15)) ?_
      refine R_sq Try.f78 62 63 (by kernel_rfl) ?_
      refine R_rn Try.f78 62 10 [] [] 0 ⟨[(2, vi o14)], []⟩ o0 (by kernel_rfl) (by kernel_rfl) ?_
      obtain rfl := Option.some.inj hm
      refine R_ret (by kernel_rfl) ?_
      exact ret_mk (by kernel_rfl) (by kernel_rfl)
  · rcases Bool.eq_false_or_eq_true (decide (((a1.length : Nat) : Int) > 32)) with b2 | b2
    · replace hm := bif_t b2 hm
      refine R_rn Try.f78 12 1 [(3, dfx true)] [] 0 ⟨[(0, vc (tl e_Point default a1)), (14, vb true)], []⟩ (o1 b2) (by kernel_rfl) (by kernel_rfl) ?_
      exact J_mk (true) hm (by kernel_rfl) (by kernel_rfl)
    · replace hm := bif_f b2 hm
      obtain ⟨v3, h4, hm⟩ := bind_s hm
      refine R_rn Try.f78 12 1 [(3, dfx false), (5, dex (cen [] [] 0 0 (poly_inRange_x v3) (poly_inRange_o v3) [10, 11] []))] [] 0 ⟨[(0, vc (tl e_Point default a1)), (14, vb (!v3))], []⟩ (o1 (And.intro b2 (callS (K := (kx E 45 0)) ⟨[(10, vb false), (11, vc (tl e_Point default a1))], []⟩ (opAt (rg Try.f78 12) 5) [] [] 0 o0 rfl (poly_inRange_ok a1 v3 h4) (.inl rfl) (by kernel_rfl)))) (by kernel_rfl) (by kernel_rfl) ?_
      exact J_mk (!v3) hm (by kernel_rfl) (by kernel_rfl)

end Saw
end Go.SL

namespace Go.SL
namespace Saw
open Go.Proofs
set_option maxHeartbeats 4000000

def poly_Check_x (r : Int) : V := vi r

def poly_Check_o (r : Int) : List (Nat × (Nat × O)) := []

theorem poly_Check_f (r : Int) : Frozen (poly_Check_o r) := by
  intro i k o h
  unfold poly_Check_o at h
  cases h

set_option maxRecDepth 100000 in
theorem poly_Check_ok (a1 : List Point) (r : Int) (hm : poly_Check a1 = some r) : CtX Try.prog globs 44 0 0 [.one (tl e_Point default a1)] [] (poly_Check_x r) (poly_Check_o r) := by
  unfold poly_Check at hm
  refine CtX_of_E (fn := Try.f44) (c := nd Try.f44 1) (nt := 19) (by kernel_rfl) (by kernel_rfl) (by kernel_rfl) (by kernel_rfl) fun E => ?_
  refine R_sq Try.f44 2 3 (by kernel_rfl) ?_
  refine R_rn Try.f44 2 0 [] [] 0 ⟨[(0, vc (tl e_Point default a1))], []⟩ o0 (by kernel_rfl) (by kernel_rfl) ?_
  refine R_sq Try.f44 6 7 (by kernel_rfl) ?_
  refine R_bk Try.f44 0 12 (by kernel_rfl) ?_
  refine R_sq Try.f44 24 25 (by kernel_rfl) ?_
  refine R_rn Try.f44 24 1 [] [] 0 ⟨[(0, vc (tl e_Point default a1)), (3, vb (decide (((a1.length : Nat) : Int) < 3)))], []⟩ o0 (by kernel_rfl) (by kernel_rfl) ?_
  refine R_cn Try.f44 (.tmp 3) 50 51 (by kernel_rfl) (decide (((a1.length : Nat) : Int) < 3)) (by kernel_rfl) (fun b2 => ?_) (fun b2 => ?_)
  · replace hm := bif_t b2 hm
    refine R_sq Try.f44 100 101 (by kernel_rfl) ?_
    refine R_rn Try.f44 100 2 [] [] 0 ⟨[(2, vi 3)], []⟩ o0 (by kernel_rfl) (by kernel_rfl) ?_
    obtain rfl := Option.some.inj hm
    refine R_ret (by kernel_rfl) ?_
    exact ret_mk (by kernel_rfl) (by kernel_rfl)
  · replace hm := bif_f b2 hm
    refine R_sq Try.f44 102 103 (by kernel_rfl) ?_
    refine R_rn Try.f44 102 3 [] [] 0 ⟨[(0, vc (tl e_Point default a1)), (7, vb (decide (((a1.length : Nat) : Int) > 32)))], []⟩ o0 (by kernel_rfl) (by kernel_rfl) ?_
    refine R_cn Try.f44 (.tmp 7) 206 207 (by kernel_rfl) (decide (((a1.length : Nat) : Int) > 32)) (by kernel_rfl) (fun b3 => ?_) (fun b3 => ?_)
    · replace hm := bif_t b3 hm
      refine R_sq Try.f44 412 413 (by kernel_rfl) ?_
      refine R_rn Try.f44 412 4 [] [] 0 ⟨[(2, vi 4)], []⟩ o0 (by kernel_rfl) (by kernel_rfl) ?_
      obtain rfl := Option.some.inj hm
      refine R_ret (by kernel_rfl) ?_
      exact ret_mk (by kernel_rfl) (by kernel_rfl)
    · replace hm := bif_f b3 hm
      refine R_sq Try.f44 414 415 (by kernel_rfl) ?_
      obtain ⟨v4, h5, hm⟩ := bind_s hm
      refine R_rn Try.f44 414 5 [(1, dex (cen [] [] 0 0 (poly_inRange_x v4) (poly_inRange_o v4) [12] []))] [] 0 ⟨[(0, vc (tl e_Point default a1)), (11, vb (!v4))], []⟩ (o1 (callS (K := (kx E 19 0)) ⟨[(12, vc (tl e_Point default a1))], []⟩ (opAt (rg Try.f44 414) 1) [] [] 0 o0 rfl (poly_inRange_ok a1 v4 h5) (.inl rfl) (by kernel_rfl))) (by kernel_rfl) (by kernel_rfl) ?_
      refine R_cn Try.f44 (.tmp 11) 830 831 (by kernel_rfl) (!v4) (by kernel_rfl) (fun b6 => ?_) (fun b6 => ?_)
      · replace hm := bif_t b6 hm
        refine R_sq Try.f44 1660 1661 (by kernel_rfl) ?_
        refine R_rn Try.f44 1660 6 [] [] 0 ⟨[(2, vi 9)], []⟩ o0 (by kernel_rfl) (by kernel_rfl) ?_
        obtain rfl := Option.some.inj hm
        refine R_ret (by kernel_rfl) ?_
        exact ret_mk (by kernel_rfl) (by kernel_rfl)
      · replace hm := bif_f b6 hm
        refine R_sq Try.f44 1662 1663 (by kernel_rfl) ?_
        obtain ⟨v7, h8, hm⟩ := bind_s hm
        refine R_rn Try.f44 1662 7 [(1, dex (cen [] [] 0 0 (poly_Area2_x v7) (poly_Area2_o v7) [16] []))] [] 0 ⟨[(15, vb (v7 == 0))], []⟩ (o1 (callS (K := (kx E 19 0)) ⟨[(16, vc (tl e_Point default a1))], []⟩ (opAt (rg Try.f44 1662) 1) [] [] 0 o0 rfl (poly_Area2_ok a1 v7 h8) (.inl rfl) (by kernel_rfl))) (by kernel_rfl) (by kernel_rfl) ?_
        refine R_cn Try.f44 (.tmp 15) 3326 3327 (by kernel_rfl) (v7 == 0) (by kernel_rfl) (fun b9 => ?_) (fun b9 => ?_)
        · replace hm := bif_t b9 hm
          refine R_sq Try.f44 6652 6653 (by kernel_rfl) ?_
          refine R_rn Try.f44 6652 8 [] [] 0 ⟨[(2, vi 19)], []⟩ o0 (by kernel_rfl) (by kernel_rfl) ?_
          obtain rfl := Option.some.inj hm
          refine R_ret (by kernel_rfl) ?_
          exact ret_mk (by kernel_rfl) (by kernel_rfl)
        · replace hm := bif_f b9 hm
          refine R_skip (by kernel_rfl) ?_
          refine R_sq Try.f44 14 15 (by kernel_rfl) ?_
          refine R_rn Try.f44 14 9 [] [] 0 ⟨[(2, vi 0)], []⟩ o0 (by kernel_rfl) (by kernel_rfl) ?_
          obtain rfl := Option.some.inj hm
          refine R_ret (by kernel_rfl) ?_
          exact ret_mk (by kernel_rfl) (by kernel_rfl)

end Saw
end Go.SL

namespace Go.SL
namespace Saw
open Go.Proofs
set_option maxHeartbeats 4000000

def poly_Has_x (r : Bool) : V := vb r

def poly_Has_o (r : Bool) : List (Nat × (Nat × O)) := []

theorem poly_Has_f (r : Bool) : Frozen (poly_Has_o r) := by
  intro i k o h
  unfold poly_Has_o at h
  cases h

def poly_Has_k5_S (a1 : List Point) (a2 : Point) (x14 : Int) (x31 : Bool) : St :=
  ⟨[(0, vc (tl e_Point default a1)), (3, vp 0 0), (5, vb x31), (24, vc (tl e_Point default a1)), (25, vi ((a1.length : Nat) : Int)), (26, vi x14)], [(0, bx 46 [ci a2.X, ci a2.Y])]⟩

def poly_Has_k4_S (a1 : List Point) (a2 : Point) (x13 : Bool) (x14 : Int) (x29 : Bool) : St :=
  ⟨[(0, vc (tl e_Point default a1)), (3, vp 0 0), (5, vb x13), (24, vc (tl e_Point default a1)), (25, vi ((a1.length : Nat) : Int)), (26, vi x14), (68, vb x29)], [(0, bx 46 [ci a2.X, ci a2.Y])]⟩

def poly_Has_k3_S (a1 : List Point) (a2 : Point) (x13 : Bool) (x14 : Int) (x23 : Point) (x24 : Point) : St :=
  ⟨[(0, vc (tl e_Point default a1)), (3, vp 0 0), (5, vb x13), (7, vp 1 0), (8, vp 2 0), (24, vc (tl e_Point default a1)), (25, vi ((a1.length : Nat) : Int)), (26, vi x14)], [(0, bx 46 [ci a2.X, ci a2.Y]), (1, bx 46 [ci x24.X, ci x24.Y]), (2, bx 46 [ci x23.X, ci x23.Y])]⟩

def poly_Has_L2_S (a1 : List Point) (a2 : Point) (x13 : Bool) (x14 : Int) : St :=
  ⟨[(0, vc (tl e_Point default a1)), (3, vp 0 0), (5, vb x13), (24, vc (tl e_Point default a1)), (25, vi ((a1.length : Nat) : Int)), (26, vi x14)], [(0, bx 46 [ci a2.X, ci a2.Y])]⟩

def poly_Has_L2_T (x32 : Bool) : St :=
  ⟨[(5, vb x32)], []⟩

def poly_Has_k1_S (a1 : List Point) (a2 : Point) (x11 : Bool) : St :=
  ⟨[(0, vc (tl e_Point default a1)), (3, vp 0 0), (23, vb x11)], [(0, bx 46 [ci a2.X, ci a2.Y])]⟩

set_option maxRecDepth 100000 in
theorem poly_Has_L2_ok (E : Env 0) (a1 : List Point) (a2 : Point) : ∀ (n : Nat) (x13 : Bool) (x14 : Int) (res : Bool ⊕ Bool), poly_Has_L2 a1 a2 n x13 x14 = some res → HL (kx E 73 0) (nd Try.f38 244) (loopQ 0 (fun o => poly_Has_L2_T o) (fun v st => RetQ Try.prog Try.f38 (poly_Has_x v) (poly_Has_o v) .ret st) res) n (poly_Has_L2_S a1 a2 x13 x14) := by
  intro n
  induction n with
  | zero =>
    intro x13 x14 res hm
    cases hm
  | succ n ih =>
    intro x13 x14 res hm
    refine HL_succ ?_
    refine R_sq Try.f38 488 489 (by kernel_rfl) ?_
    refine R_rn Try.f38 488 5 [] [] 1 ⟨[(0, vc (tl e_Point default a1)), (3, vp 0 0), (5, vb x13), (24, vc (tl e_Point default a1)), (25, vi ((a1.length : Nat) : Int)), (26, vi x14), (27, vb (decide (x14 < ((a1.length : Nat) : Int))))], [(0, bx 46 [ci a2.X, ci a2.Y])]⟩ o0 (by kernel_rfl) (by kernel_rfl) ?_
    refine R_sq Try.f38 978 979 (by kernel_rfl) ?_
    refine R_cn Try.f38 (.tmp 27) 1956 1957 (by kernel_rfl) (decide (x14 < ((a1.length : Nat) : Int))) (by kernel_rfl) (fun b15 => ?_) (fun b15 => ?_)
    · replace hm := bif_t b15 hm
      refine R_skip (by kernel_rfl) ?_
      refine R_join (ι := Bool) (nd Try.f38 1958) (nd Try.f38 1959) (by kernel_rfl) (fun p => poly_Has_k5_S a1 a2 x14 p) (fun p => poly_Has_k5 x14 (poly_Has_L2 a1 a2 n) p = some res) ?_ ?_
      · rintro x31 hm
        show H _ (poly_Has_k5_S a1 a2 x14 x31) (nd Try.f38 1959) _
        refine R_rn Try.f38 1959 14 [] [] 3 ⟨[(0, vc (tl e_Point default a1)), (3, vp 0 0), (5, vb x31), (24, vc (tl e_Point default a1)), (25, vi ((a1.length : Nat) : Int)), (26, vi (w64 (x14 + 1)))], [(0, bx 46 [ci a2.X, ci a2.Y])]⟩ o0 (by kernel_rfl) (by kernel_rfl) ?_
        exact HL_enter (poly_Has_L2_S a1 a2 x31 (w64 (x14 + 1))) (by kernel_rfl) (by kernel_rfl) (ih x31 (w64 (x14 + 1)) _ hm)
      · refine R_bk Try.f38 1 3916 (by kernel_rfl) ?_
        refine R_sq Try.f38 7832 7833 (by kernel_rfl) ?_
        obtain ⟨g16, hm⟩ := bif_n hm
        refine R_rn Try.f38 7832 6 [] [] 1 ⟨[(0, vc (tl e_Point default a1)), (3, vp 0 0), (5, vb x13), (6, vi x14), (7, vp 1 0), (24, vc (tl e_Point default a1)), (25, vi ((a1.length : Nat) : Int)), (26, vi x14)], [(0, bx 46 [ci a2.X, ci a2.Y]), (1, bx 46 [ci ((a1.getD x14.toNat default).X), ci ((a1.getD x14.toNat default).Y)])]⟩ (o1 (inb_of g16)) (by kernel_rfl) (by kernel_rfl) ?_
        refine R_sq Try.f38 15666 15667 (by kernel_rfl) ?_
        obtain ⟨g17, hm⟩ := bif_n hm
        obtain ⟨g18, hm⟩ := bif_n hm
        refine R_rn Try.f38 15666 7 [] [] 2 ⟨[(0, vc (tl e_Point default a1)), (3, vp 0 0), (5, vb x13), (7, vp 1 0), (8, vp 2 0), (24, vc (tl e_Point default a1)), (25, vi ((a1.length : Nat) : Int)), (26, vi x14)], [(0, bx 46 [ci a2.X, ci a2.Y]), (1, bx 46 [ci ((a1.getD x14.toNat default).X), ci ((a1.getD x14.toNat default).Y)]), (2, bx 46 [ci ((a1.getD (Int.tmod (w64 (x14 + 1)) ((a1.length : Nat) : Int)).toNat default).X), ci ((a1.getD (Int.tmod (w64 (x14 + 1)) ((a1.length : Nat) : Int)).toNat default).Y)])]⟩ (o1 (And.intro (nz_of g17) (inb_of g18))) (by kernel_rfl) (by kernel_rfl) ?_
        refine R_sq Try.f38 31334 31335 (by kernel_rfl) ?_
        refine R_sq Try.f38 62668 62669 (by kernel_rfl) ?_
        obtain ⟨v19, h20, hm⟩ := bind_s hm
        refine R_rn Try.f38 62668 8 [(3, dex (cen [] [] 3 0 (poly_onEdge_x v19) (poly_onEdge_o v19) [39, 40, 41] []))] [] 3 ⟨[(0, vc (tl e_Point default a1)), (3, vp 0 0), (5, vb x13), (7, vp 1 0), (8, vp 2 0), (24, vc (tl e_Point default a1)), (25, vi ((a1.length : Nat) : Int)), (26, vi x14), (42, vb v19)], [(0, bx 46 [ci a2.X, ci a2.Y]), (1, bx 46 [ci ((a1.getD x14.toNat default).X), ci ((a1.getD x14.toNat default).Y)]), (2, bx 46 [ci ((a1.getD (Int.tmod (w64 (x14 + 1)) ((a1.length : Nat) : Int)).toNat default).X), ci ((a1.getD (Int.tmod (w64 (x14 + 1)) ((a1.length : Nat) : Int)).toNat default).Y)])]⟩ (o1 (callS (K := (kx E 73 0)) ⟨[(39, va [ci ((a1.getD x14.toNat default).X), ci ((a1.getD x14.toNat default).Y)]), (40, va [ci ((a1.getD (Int.tmod (w64 (x14 + 1)) ((a1.length : Nat) : Int)).toNat default).X), ci ((a1.getD (Int.tmod (w64 (x14 + 1)) ((a1.length : Nat) : Int)).toNat default).Y)]), (41, va [ci a2.X, ci a2.Y])], []⟩ (opAt (rg Try.f38 62668) 3) [] [] 3 o0 rfl (poly_onEdge_ok (a1.getD x14.toNat default) (a1.getD (Int.tmod (w64 (x14 + 1)) ((a1.length : Nat) : Int)).toNat default) a2 v19 h20) (.inl rfl) (by kernel_rfl))) (by kernel_rfl) (by kernel_rfl) ?_
        refine R_cn Try.f38 (.tmp 42) 125338 125339 (by kernel_rfl) v19 (by kernel_rfl) (fun b21 => ?_) (fun b21 => ?_)
        · replace hm := bif_t b21 hm
          refine R_sq Try.f38 250676 250677 (by kernel_rfl) ?_
          refine R_rn Try.f38 250676 9 [] [] 3 ⟨[(4, vb true)], []⟩ o0 (by kernel_rfl) (by kernel_rfl) ?_
          obtain rfl := Option.some.inj hm
          refine R_ret (by kernel_rfl) ?_
          refine L1_ret true ?_
          exact ret_mk (by kernel_rfl) (by kernel_rfl)
        · replace hm := bif_f b21 hm
          refine R_skip (by kernel_rfl) ?_
          refine R_join (ι := Point × Point) (nd Try.f38 62670) (nd Try.f38 62671) (by kernel_rfl) (fun p => poly_Has_k3_S a1 a2 x13 x14 p.1 p.2) (fun p => poly_Has_k3 a2 x13 x14 (poly_Has_L2 a1 a2 n) p.1 p.2 = some res) ?_ ?_
          · rintro ⟨x23, x24⟩ hm
            show H _ (poly_Has_k3_S a1 a2 x13 x14 x23 x24) (nd Try.f38 62671) _
            refine R_join (ι := Bool) (nd Try.f38 125342) (nd Try.f38 125343) (by kernel_rfl) (fun p => poly_Has_k4_S a1 a2 x13 x14 p) (fun p => poly_Has_k4 x13 x14 (poly_Has_L2 a1 a2 n) p = some res) ?_ ?_
            · rintro x29 hm
              show H _ (poly_Has_k4_S a1 a2 x13 x14 x29) (nd Try.f38 125343) _
              refine R_cn Try.f38 (.tmp 68) 250686 250687 (by kernel_rfl) x29 (by kernel_rfl) (fun b30 => ?_) (fun b30 => ?_)
              · replace hm := bif_t b30 hm
                refine R_rn Try.f38 250686 13 [] [] 3 ⟨[(0, vc (tl e_Point default a1)), (3, vp 0 0), (5, vb (!x13)), (24, vc (tl e_Point default a1)), (25, vi ((a1.length : Nat) : Int)), (26, vi x14)], [(0, bx 46 [ci a2.X, ci a2.Y])]⟩ o0 (by kernel_rfl) (by kernel_rfl) ?_
                exact J_mk (!x13) hm (by kernel_rfl) (by kernel_rfl)
              · replace hm := bif_f b30 hm
                refine R_skip (by kernel_rfl) ?_
                exact J_mk (x13) hm (by kernel_rfl) (by kernel_rfl)
            · rcases Bool.eq_false_or_eq_true (decide (x24.Y ≤ a2.Y)) with b25 | b25
              · replace hm := bif_t b25 hm
                rcases Bool.eq_false_or_eq_true (decide (a2.Y < x23.Y)) with b26 | b26
                · replace hm := bif_t b26 hm
                  obtain ⟨v27, h28, hm⟩ := bind_s hm
                  refine R_rn Try.f38 125342 12 [(5, dfx true), (12, dfx true), (16, dex (cen [] [] 3 0 (poly_cross_x v27) (poly_cross_o v27) [62, 63, 64, 65] []))] [] 3 ⟨[(0, vc (tl e_Point default a1)), (3, vp 0 0), (5, vb x13), (24, vc (tl e_Point default a1)), (25, vi ((a1.length : Nat) : Int)), (26, vi x14), (56, vp 0 1), (57, vi a2.Y), (58, vp 2 1), (59, vi x23.Y), (60, vb (decide (a2.Y < x23.Y))), (63, va [ci x24.X, ci x24.Y]), (64, va [ci x23.X, ci x23.Y]), (65, va [ci a2.X, ci a2.Y]), (66, vi v27), (67, vb (decide (v27 > 0))), (68, vb (decide (v27 > 0)))], [(0, bx 46 [ci a2.X, ci a2.Y]), (2, bx 46 [ci x23.X, ci x23.Y])]⟩ (o1 (And.intro b25 (And.intro b26 (callS (K := (kx E 73 0)) ⟨[(62, vb true), (63, va [ci x24.X, ci x24.Y]), (64, va [ci x23.X, ci x23.Y]), (65, va [ci a2.X, ci a2.Y])], []⟩ (opAt (rg Try.f38 125342) 16) [] [] 3 o0 rfl (poly_cross_ok x24 x23 a2 v27 h28) (.inl rfl) (by kernel_rfl))))) (by kernel_rfl) (by kernel_rfl) ?_
                  exact J_mk (decide (v27 > 0)) hm (by kernel_rfl) (by kernel_rfl)
                · replace hm := bif_f b26 hm
                  refine R_rn Try.f38 125342 12 [(5, dfx true), (12, dfx false)] [] 3 ⟨[(0, vc (tl e_Point default a1)), (3, vp 0 0), (5, vb x13), (24, vc (tl e_Point default a1)), (25, vi ((a1.length : Nat) : Int)), (26, vi x14), (56, vp 0 1), (57, vi a2.Y), (58, vp 2 1), (59, vi x23.Y), (60, vb (decide (a2.Y < x23.Y))), (68, vb false)], [(0, bx 46 [ci a2.X, ci a2.Y]), (2, bx 46 [ci x23.X, ci x23.Y])]⟩ (o1 (And.intro b25 b26)) (by kernel_rfl) (by kernel_rfl) ?_
                  exact J_mk (false) hm (by kernel_rfl) (by kernel_rfl)
              · replace hm := bif_f b25 hm
                refine R_rn Try.f38 125342 12 [(5, dfx false)] [] 3 ⟨[(0, vc (tl e_Point default a1)), (3, vp 0 0), (5, vb x13), (24, vc (tl e_Point default a1)), (25, vi ((a1.length : Nat) : Int)), (26, vi x14), (68, vb false)], [(0, bx 46 [ci a2.X, ci a2.Y])]⟩ (o1 b25) (by kernel_rfl) (by kernel_rfl) ?_
                exact J_mk (false) hm (by kernel_rfl) (by kernel_rfl)
          · refine R_sq Try.f38 125340 125341 (by kernel_rfl) ?_
            refine R_rn Try.f38 125340 10 [] [] 3 ⟨[(0, vc (tl e_Point default a1)), (3, vp 0 0), (5, vb x13), (7, vp 1 0), (8, vp 2 0), (24, vc (tl e_Point default a1)), (25, vi ((a1.length : Nat) : Int)), (26, vi x14), (47, vb (decide (((a1.getD x14.toNat default).Y) > ((a1.getD (Int.tmod (w64 (x14 + 1)) ((a1.length : Nat) : Int)).toNat default).Y))))], [(0, bx 46 [ci a2.X, ci a2.Y]), (1, bx 46 [ci ((a1.getD x14.toNat default).X), ci ((a1.getD x14.toNat default).Y)]), (2, bx 46 [ci ((a1.getD (Int.tmod (w64 (x14 + 1)) ((a1.length : Nat) : Int)).toNat default).X), ci ((a1.getD (Int.tmod (w64 (x14 + 1)) ((a1.length : Nat) : Int)).toNat default).Y)])]⟩ o0 (by kernel_rfl) (by kernel_rfl) ?_
            refine R_cn Try.f38 (.tmp 47) 250682 250683 (by kernel_rfl) (decide (((a1.getD x14.toNat default).Y) > ((a1.getD (Int.tmod (w64 (x14 + 1)) ((a1.length : Nat) : Int)).toNat default).Y))) (by kernel_rfl) (fun b22 => ?_) (fun b22 => ?_)
            · replace hm := bif_t b22 hm
              refine R_rn Try.f38 250682 11 [] [] 3 ⟨[(0, vc (tl e_Point default a1)), (3, vp 0 0), (5, vb x13), (7, vp 1 0), (8, vp 2 0), (24, vc (tl e_Point default a1)), (25, vi ((a1.length : Nat) : Int)), (26, vi x14)], [(0, bx 46 [ci a2.X, ci a2.Y]), (1, bx 46 [ci ((a1.getD (Int.tmod (w64 (x14 + 1)) ((a1.length : Nat) : Int)).toNat default).X), ci ((a1.getD (Int.tmod (w64 (x14 + 1)) ((a1.length : Nat) : Int)).toNat default).Y)]), (2, bx 46 [ci ((a1.getD x14.toNat default).X), ci ((a1.getD x14.toNat default).Y)])]⟩ o0 (by kernel_rfl) (by kernel_rfl) ?_
              exact J_mk ((a1.getD x14.toNat default), (a1.getD (Int.tmod (w64 (x14 + 1)) ((a1.length : Nat) : Int)).toNat default)) hm (by kernel_rfl) (by kernel_rfl)
            · replace hm := bif_f b22 hm
              refine R_skip (by kernel_rfl) ?_
              exact J_mk ((a1.getD (Int.tmod (w64 (x14 + 1)) ((a1.length : Nat) : Int)).toNat default), (a1.getD x14.toNat default)) hm (by kernel_rfl) (by kernel_rfl)
    · replace hm := bif_f b15 hm
      refine R_exit 0 (by kernel_rfl) ?_
      obtain rfl := Option.some.inj hm
      exact L1_mk x13 (by kernel_rfl) (by kernel_rfl)

set_option maxRecDepth 100000 in
theorem poly_Has_ok (a1 : List Point) (a2 : Point) (r : Bool) (hm : poly_Has a1 a2 = some r) : CtX Try.prog globs 38 0 0 [.one (tl e_Point default a1), .agg [ci a2.X, ci a2.Y]] [] (poly_Has_x r) (poly_Has_o r) := by
  unfold poly_Has at hm
  refine CtX_of_E (fn := Try.f38) (c := nd Try.f38 1) (nt := 73) (by kernel_rfl) (by kernel_rfl) (by kernel_rfl) (by kernel_rfl) fun E => ?_
  refine R_sq Try.f38 2 3 (by kernel_rfl) ?_
  refine R_rn Try.f38 2 0 [] [] 0 ⟨[(0, vc (tl e_Point default a1)), (3, vp 0 0)], [(0, bx 46 [ci a2.X, ci a2.Y])]⟩ o0 (by kernel_rfl) (by kernel_rfl) ?_
  refine R_sq Try.f38 6 7 (by kernel_rfl) ?_
  refine R_join (ι := Bool) (nd Try.f38 12) (nd Try.f38 13) (by kernel_rfl) (fun p => poly_Has_k1_S a1 a2 p) (fun p => poly_Has_k1 a1 a2 p = some r) ?_ ?_
  · rintro x11 hm
    show H _ (poly_Has_k1_S a1 a2 x11) (nd Try.f38 13) _
    refine R_cn Try.f38 (.tmp 23) 26 27 (by kernel_rfl) x11 (by kernel_rfl) (fun b12 => ?_) (fun b12 => ?_)
    · replace hm := bif_t b12 hm
      refine R_sq Try.f38 52 53 (by kernel_rfl) ?_
      refine R_rn Try.f38 52 2 [] [] 1 ⟨[(4, vb false)], []⟩ o0 (by kernel_rfl) (by kernel_rfl) ?_
      obtain rfl := Option.some.inj hm
      refine R_ret (by kernel_rfl) ?_
      exact ret_mk (by kernel_rfl) (by kernel_rfl)
    · replace hm := bif_f b12 hm
      refine R_skip (by kernel_rfl) ?_
      refine R_sq Try.f38 14 15 (by kernel_rfl) ?_
      refine R_rn Try.f38 14 3 [] [] 1 ⟨[(0, vc (tl e_Point default a1)), (3, vp 0 0), (5, vb false)], [(0, bx 46 [ci a2.X, ci a2.Y])]⟩ o0 (by kernel_rfl) (by kernel_rfl) ?_
      refine R_sq Try.f38 30 31 (by kernel_rfl) ?_
      refine R_sq Try.f38 60 61 (by kernel_rfl) ?_
      refine R_rn Try.f38 60 4 [] [] 1 ⟨[(0, vc (tl e_Point default a1)), (3, vp 0 0), (5, vb false), (24, vc (tl e_Point default a1)), (25, vi ((a1.length : Nat) : Int)), (26, vi 0)], [(0, bx 46 [ci a2.X, ci a2.Y])]⟩ o0 (by kernel_rfl) (by kernel_rfl) ?_
      obtain ⟨u35, h34, hm⟩ := bind_s hm
      refine R_loop1 (nd Try.f38 244) 0 (by kernel_rfl) FUEL (fun o => poly_Has_L2_T o) (fun v st => RetQ Try.prog Try.f38 (poly_Has_x v) (poly_Has_o v) .ret st) u35 (HL_enter (poly_Has_L2_S a1 a2 false 0) (by kernel_rfl) (by kernel_rfl) (poly_Has_L2_ok E a1 a2 FUEL false 0 u35 h34)) ?_ ?_
      · rintro v36 rfl st hr
        obtain rfl := Option.some.inj hm
        exact hr
      · rintro o33 rfl
        replace hm : _ = some r := hm
        refine R_sq Try.f38 62 63 (by kernel_rfl) ?_
        refine R_rn Try.f38 62 15 [] [] 1 ⟨[(4, vb o33)], []⟩ o0 (by kernel_rfl) (by kernel_rfl) ?_
        obtain rfl := Option.some.inj hm
        refine R_ret (by kernel_rfl) ?_
        exact ret_mk (by kernel_rfl) (by kernel_rfl)
  · obtain ⟨v3, h4, hm⟩ := bind_s hm
    rcases Bool.eq_false_or_eq_true (v3 != 0) with b5 | b5
    · replace hm := bif_t b5 hm
      refine R_rn Try.f38 12 1 [(1, dex (cen [] [] 1 0 (poly_Check_x v3) (poly_Check_o v3) [9] [])), (3, dfx true)] [] 1 ⟨[(0, vc (tl e_Point default a1)), (3, vp 0 0), (23, vb true)], [(0, bx 46 [ci a2.X, ci a2.Y])]⟩ (o1 (And.intro (callS (K := (kx E 73 0)) ⟨[(9, vc (tl e_Point default a1))], []⟩ (opAt (rg Try.f38 12) 1) [] [] 1 o0 rfl (poly_Check_ok a1 v3 h4) (.inl rfl) (by kernel_rfl)) b5)) (by kernel_rfl) (by kernel_rfl) ?_
      exact J_mk (true) hm (by kernel_rfl) (by kernel_rfl)
    · replace hm := bif_f b5 hm
      obtain ⟨v6, h7, hm⟩ := bind_s hm
      rcases Bool.eq_false_or_eq_true (!v6) with b8 | b8
      · replace hm := bif_t b8 hm
        refine R_rn Try.f38 12 1 [(1, dex (cen [] [] 1 0 (poly_Check_x v3) (poly_Check_o v3) [9] [])), (3, dfx false), (6, dex (cen [] [] 1 0 (poly_within_x v6) (poly_within_o v6) [12, 14] [])), (9, dfx true)] [] 1 ⟨[(0, vc (tl e_Point default a1)), (3, vp 0 0), (23, vb true)], [(0, bx 46 [ci a2.X, ci a2.Y])]⟩ (o1 (And.intro (callS (K := (kx E 73 0)) ⟨[(9, vc (tl e_Point default a1))], []⟩ (opAt (rg Try.f38 12) 1) [] [] 1 o0 rfl (poly_Check_ok a1 v3 h4) (.inl rfl) (by kernel_rfl)) (And.intro b5 (And.intro (callS (K := (kx E 73 0)) ⟨[(12, vb false), (14, vi a2.X)], []⟩ (opAt (rg Try.f38 12) 6) [] [] 1 o0 rfl (poly_within_ok a2.X v6 h7) (.inl rfl) (by kernel_rfl)) b8)))) (by kernel_rfl) (by kernel_rfl) ?_
        exact J_mk (true) hm (by kernel_rfl) (by kernel_rfl)
      · replace hm := bif_f b8 hm
        obtain ⟨v9, h10, hm⟩ := bind_s hm
        refine R_rn Try.f38 12 1 [(1, dex (cen [] [] 1 0 (poly_Check_x v3) (poly_Check_o v3) [9] [])), (3, dfx false), (6, dex (cen [] [] 1 0 (poly_within_x v6) (poly_within_o v6) [12, 14] [])), (9, dfx false), (12, dex (cen [] [] 1 0 (poly_within_x v9) (poly_within_o v9) [18, 20] []))] [] 1 ⟨[(0, vc (tl e_Point default a1)), (3, vp 0 0), (23, vb (!v9))], [(0, bx 46 [ci a2.X, ci a2.Y])]⟩ (o1 (And.intro (callS (K := (kx E 73 0)) ⟨[(9, vc (tl e_Point default a1))], []⟩ (opAt (rg Try.f38 12) 1) [] [] 1 o0 rfl (poly_Check_ok a1 v3 h4) (.inl rfl) (by kernel_rfl)) (And.intro b5 (And.intro (callS (K := (kx E 73 0)) ⟨[(12, vb false), (14, vi a2.X)], []⟩ (opAt (rg Try.f38 12) 6) [] [] 1 o0 rfl (poly_within_ok a2.X v6 h7) (.inl rfl) (by kernel_rfl)) (And.intro b8 (callS (K := (kx E 73 0)) ⟨[(18, vb false), (20, vi a2.Y)], []⟩ (opAt (rg Try.f38 12) 12) [] [] 1 o0 rfl (poly_within_ok a2.Y v9 h10) (.inl rfl) (by kernel_rfl))))))) (by kernel_rfl) (by kernel_rfl) ?_
        exact J_mk (!v9) hm (by kernel_rfl) (by kernel_rfl)

end Saw
end Go.SL

namespace Go.SL
namespace Saw
open Go.Proofs
set_option maxHeartbeats 4000000

def section_heights_x (r : Span) : V := va [ci r.A, ci r.B]

def section_heights_o (r : Span) : List (Nat × (Nat × O)) := []

theorem section_heights_f (r : Span) : Frozen (section_heights_o r) := by
  intro i k o h
  unfold section_heights_o at h
  cases h

set_option maxRecDepth 100000 in
theorem section_heights_ok (a1 : Int) (a2 : Int) (r : Span) (hm : section_heights a1 a2 = some r) : CtX Try.prog globs 47 0 0 [.one (ci a1), .one (ci a2)] [] (section_heights_x r) (section_heights_o r) := by
  unfold section_heights at hm
  refine CtX_of_E (fn := Try.f47) (c := nd Try.f47 1) (nt := 10) (by kernel_rfl) (by kernel_rfl) (by kernel_rfl) (by kernel_rfl) fun E => ?_
  refine R_sq Try.f47 2 3 (by kernel_rfl) ?_
  refine R_rn Try.f47 2 0 [] [] 0 ⟨[(0, vi a1), (1, vi a2), (4, vp 0 0)], [(0, bx 35 [ci 0, ci 0])]⟩ o0 (by kernel_rfl) (by kernel_rfl) ?_
  refine R_sq Try.f47 6 7 (by kernel_rfl) ?_
  refine R_rn Try.f47 6 1 [] [] 1 ⟨[(4, vp 0 0)], [(0, bx 35 [ci (w64 (10 * a1)), ci (w64 (10 * a2))])]⟩ o0 (by kernel_rfl) (by kernel_rfl) ?_
  obtain rfl := Option.some.inj hm
  refine R_ret (by kernel_rfl) ?_
  exact ret_mk (by kernel_rfl) (by kernel_rfl)

end Saw
end Go.SL

namespace Go.SL
namespace Saw
open Go.Proofs
set_option maxHeartbeats 4000000

def slices_Clone_SPoint_x (r : List Point) : V := vo 0 0 2 r.length

def slices_Clone_SPoint_o (r : List Point) : List (Nat × (Nat × O)) := [(0, ro 0 46 2 r.length (rf e_Point r))]

theorem slices_Clone_SPoint_f (r : List Point) : Frozen (slices_Clone_SPoint_o r) := by
  intro i k o h
  unfold slices_Clone_SPoint_o at h
  rw [look_cons] at h
  split at h
  · cases h; exact fun _ _ => rfl
  · cases h

set_option maxRecDepth 100000 in
theorem slices_Clone_SPoint_ok (a1 : List Point) (r : List Point) (hm : slices_Clone_SPoint a1 = some r) : CtX Try.prog globs 67 0 0 [.one (tl e_Point default a1)] [] (slices_Clone_SPoint_x r) (slices_Clone_SPoint_o r) := by
  unfold slices_Clone_SPoint at hm
  obtain ⟨g1, hm⟩ := bif_n hm
  obtain rfl := Option.some.inj hm
  refine CtX_of_E (fn := Try.f67) (c := nd Try.f67 1) (nt := 8) (by kernel_rfl) (by kernel_rfl) (by kernel_rfl) (by kernel_rfl) fun E => ?_
  refine R_sq Try.f67 2 3 (by kernel_rfl) ?_
  refine R_rn Try.f67 2 0 [] [] 0 ⟨[(0, vc (tl e_Point default a1))], []⟩ o0 (by kernel_rfl) (by kernel_rfl) ?_
  refine R_sq Try.f67 6 7 (by kernel_rfl) ?_
  refine R_sq Try.f67 12 13 (by kernel_rfl) ?_
  refine R_nil Try.f67 12 1 1 ⟨[(0, vc (tl e_Point default a1)), (3, vc (tl e_Point default a1))], []⟩ 29 29 46 4 (.tmp 3) a1.length (rf e_Point a1) (by kernel_rfl) (by kernel_rfl) (by kernel_rfl) (fun b hb => ?_)
  refine R_cn Try.f67 (.tmp 4) 26 27 (by kernel_rfl) b (by kernel_rfl) (fun b6 => ?_) (fun b6 => ?_)
  · obtain rfl : a1 = [] := List.eq_nil_of_length_eq_zero (hb b6)
    refine R_sq Try.f67 52 53 (by kernel_rfl) ?_
    refine R_rn Try.f67 52 2 [] [.own 2 0 46 2 (rf e_Point ([] : List Point))] 0 ⟨[(2, vo 0 0 2 0)], [(0, ro 0 46 2 0 (rf e_Point ([] : List Point)))]⟩ o0 (by kernel_rfl) (by kernel_rfl) ?_
    refine R_ret (by kernel_rfl) ?_
    exact ret_mk (by kernel_rfl) (by kernel_rfl)
  · refine R_skip (by kernel_rfl) ?_
    refine R_sq Try.f67 14 15 (by kernel_rfl) ?_
    refine R_rn Try.f67 14 3 [(0, drw 0 0 (rf e_Point ([] : List Point))), (2, drw 0 1 (rf e_Point ([] ++ a1)))] [.len 0 a1.length] 0 ⟨[(2, vo 0 1 2 a1.length)], [(0, ro 1 46 2 a1.length (rf e_Point ([] ++ a1)))]⟩ (o1 (And.intro (And.intro (litP e_Point default 2 (fun _ => rfl) ([] : List Point) 0 rfl) (apP e_Point default ([] : List Point) a1 0 a1.length 2 16 True trivial rfl rfl (fun _ => rfl) (by have := room_of g1; rw [Nat.zero_add]; exact this))) (And.intro (And.intro (Nat.zero_add a1.length) (Nat.zero_add a1.length)) (Nat.zero_add a1.length)))) (by kernel_rfl) (by kernel_rfl) ?_
    refine R_ret (by kernel_rfl) ?_
    exact ret_mk (by kernel_rfl) (by kernel_rfl)

end Saw
end Go.SL

namespace Go.SL
namespace Saw
open Go.Proofs
set_option maxHeartbeats 4000000

def cmp_isNaN_i64_x (r : Bool) : V := vb r

def cmp_isNaN_i64_o (r : Bool) : List (Nat × (Nat × O)) := []

theorem cmp_isNaN_i64_f (r : Bool) : Frozen (cmp_isNaN_i64_o r) := by
  intro i k o h
  unfold cmp_isNaN_i64_o at h
  cases h

set_option maxRecDepth 100000 in
theorem cmp_isNaN_i64_ok (a1 : Int) (r : Bool) (hm : cmp_isNaN_i64 a1 = some r) : CtX Try.prog globs 88 0 0 [.one (ci a1)] [] (cmp_isNaN_i64_x r) (cmp_isNaN_i64_o r) := by
  unfold cmp_isNaN_i64 at hm
  refine CtX_of_E (fn := Try.f88) (c := nd Try.f88 1) (nt := 6) (by kernel_rfl) (by kernel_rfl) (by kernel_rfl) (by kernel_rfl) fun E => ?_
  refine R_sq Try.f88 2 3 (by kernel_rfl) ?_
  refine R_rn Try.f88 2 0 [] [] 0 ⟨[(0, vi a1)], []⟩ o0 (by kernel_rfl) (by kernel_rfl) ?_
  refine R_sq Try.f88 6 7 (by kernel_rfl) ?_
  refine R_rn Try.f88 6 1 [] [] 0 ⟨[(2, vb (a1 != a1))], []⟩ o0 (by kernel_rfl) (by kernel_rfl) ?_
  obtain rfl := Option.some.inj hm
  refine R_ret (by kernel_rfl) ?_
  exact ret_mk (by kernel_rfl) (by kernel_rfl)

end Saw
end Go.SL

namespace Go.SL
namespace Saw
open Go.Proofs
set_option maxHeartbeats 4000000

def cmp_Compare_i64_x (r : Int) : V := vi r

def cmp_Compare_i64_o (r : Int) : List (Nat × (Nat × O)) := []

theorem cmp_Compare_i64_f (r : Int) : Frozen (cmp_Compare_i64_o r) := by
  intro i k o h
  unfold cmp_Compare_i64_o at h
  cases h

set_option maxRecDepth 100000 in
theorem cmp_Compare_i64_ok (a1 : Int) (a2 : Int) (r : Int) (hm : cmp_Compare_i64 a1 a2 = some r) : CtX Try.prog globs 71 0 0 [.one (ci a1), .one (ci a2)] [] (cmp_Compare_i64_x r) (cmp_Compare_i64_o r) := by
  unfold cmp_Compare_i64 at hm
  refine CtX_of_E (fn := Try.f71) (c := nd Try.f71 1) (nt := 20) (by kernel_rfl) (by kernel_rfl) (by kernel_rfl) (by kernel_rfl) fun E => ?_
  refine R_sq Try.f71 2 3 (by kernel_rfl) ?_
  refine R_rn Try.f71 2 0 [] [] 0 ⟨[(0, vi a1), (1, vi a2)], []⟩ o0 (by kernel_rfl) (by kernel_rfl) ?_
  refine R_sq Try.f71 6 7 (by kernel_rfl) ?_
  obtain ⟨v3, h4, hm⟩ := bind_s hm
  refine R_rn Try.f71 6 1 [(1, dex (cen [] [] 0 0 (cmp_isNaN_i64_x v3) (cmp_isNaN_i64_o v3) [7] []))] [] 0 ⟨[(0, vi a1), (1, vi a2), (5, vb v3)], []⟩ (o1 (callS (K := (kx E 20 0)) ⟨[(7, vi a1)], []⟩ (opAt (rg Try.f71 6) 1) [] [] 0 o0 rfl (cmp_isNaN_i64_ok a1 v3 h4) (.inl rfl) (by kernel_rfl))) (by kernel_rfl) (by kernel_rfl) ?_
  refine R_sq Try.f71 14 15 (by kernel_rfl) ?_
  obtain ⟨v5, h6, hm⟩ := bind_s hm
  refine R_rn Try.f71 14 2 [(1, dex (cen [] [] 0 0 (cmp_isNaN_i64_x v5) (cmp_isNaN_i64_o v5) [9] []))] [] 0 ⟨[(0, vi a1), (1, vi a2), (5, vb v3), (6, vb v5)], []⟩ (o1 (callS (K := (kx E 20 0)) ⟨[(9, vi a2)], []⟩ (opAt (rg Try.f71 14) 1) [] [] 0 o0 rfl (cmp_isNaN_i64_ok a2 v5 h6) (.inl rfl) (by kernel_rfl))) (by kernel_rfl) (by kernel_rfl) ?_
  refine R_sq Try.f71 30 31 (by kernel_rfl) ?_
  refine R_sq Try.f71 60 61 (by kernel_rfl) ?_
  refine R_rn Try.f71 60 3 [] [] 0 ⟨[(0, vi a1), (1, vi a2), (6, vb v5), (11, vb v3)], []⟩ o0 (by kernel_rfl) (by kernel_rfl) ?_
  refine R_cn Try.f71 (.tmp 11) 122 123 (by kernel_rfl) v3 (by kernel_rfl) (fun b7 => ?_) (fun b7 => ?_)
  · replace hm := bif_t b7 hm
    refine R_sq Try.f71 244 245 (by kernel_rfl) ?_
    refine R_sq Try.f71 488 489 (by kernel_rfl) ?_
    refine R_rn Try.f71 488 4 [] [] 0 ⟨[(12, vb v5)], []⟩ o0 (by kernel_rfl) (by kernel_rfl) ?_
    refine R_cn Try.f71 (.tmp 12) 978 979 (by kernel_rfl) v5 (by kernel_rfl) (fun b8 => ?_) (fun b8 => ?_)
    · replace hm := bif_t b8 hm
      refine R_sq Try.f71 1956 1957 (by kernel_rfl) ?_
      refine R_rn Try.f71 1956 5 [] [] 0 ⟨[(4, vi 0)], []⟩ o0 (by kernel_rfl) (by kernel_rfl) ?_
      obtain rfl := Option.some.inj hm
      refine R_ret (by kernel_rfl) ?_
      exact ret_mk (by kernel_rfl) (by kernel_rfl)
    · replace hm := bif_f b8 hm
      refine R_skip (by kernel_rfl) ?_
      refine R_sq Try.f71 490 491 (by kernel_rfl) ?_
      refine R_rn Try.f71 490 6 [] [] 0 ⟨[(4, vi (-1))], []⟩ o0 (by kernel_rfl) (by kernel_rfl) ?_
      obtain rfl := Option.some.inj hm
      refine R_ret (by kernel_rfl) ?_
      exact ret_mk (by kernel_rfl) (by kernel_rfl)
  · replace hm := bif_f b7 hm
    refine R_skip (by kernel_rfl) ?_
    refine R_sq Try.f71 62 63 (by kernel_rfl) ?_
    refine R_sq Try.f71 124 125 (by kernel_rfl) ?_
    refine R_rn Try.f71 124 7 [] [] 0 ⟨[(0, vi a1), (1, vi a2), (13, vb v5)], []⟩ o0 (by kernel_rfl) (by kernel_rfl) ?_
    refine R_cn Try.f71 (.tmp 13) 250 251 (by kernel_rfl) v5 (by kernel_rfl) (fun b9 => ?_) (fun b9 => ?_)
    · replace hm := bif_t b9 hm
      refine R_sq Try.f71 500 501 (by kernel_rfl) ?_
      refine R_rn Try.f71 500 8 [] [] 0 ⟨[(4, vi 1)], []⟩ o0 (by kernel_rfl) (by kernel_rfl) ?_
      obtain rfl := Option.some.inj hm
      refine R_ret (by kernel_rfl) ?_
      exact ret_mk (by kernel_rfl) (by kernel_rfl)
    · replace hm := bif_f b9 hm
      refine R_skip (by kernel_rfl) ?_
      refine R_sq Try.f71 126 127 (by kernel_rfl) ?_
      refine R_sq Try.f71 252 253 (by kernel_rfl) ?_
      refine R_rn Try.f71 252 9 [] [] 0 ⟨[(0, vi a1), (1, vi a2), (16, vb (decide (a1 < a2)))], []⟩ o0 (by kernel_rfl) (by kernel_rfl) ?_
      refine R_cn Try.f71 (.tmp 16) 506 507 (by kernel_rfl) (decide (a1 < a2)) (by kernel_rfl) (fun b10 => ?_) (fun b10 => ?_)
      · replace hm := bif_t b10 hm
        refine R_sq Try.f71 1012 1013 (by kernel_rfl) ?_
        refine R_rn Try.f71 1012 10 [] [] 0 ⟨[(4, vi (-1))], []⟩ o0 (by kernel_rfl) (by kernel_rfl) ?_
        obtain rfl := Option.some.inj hm
        refine R_ret (by kernel_rfl) ?_
        exact ret_mk (by kernel_rfl) (by kernel_rfl)
      · replace hm := bif_f b10 hm
        refine R_skip (by kernel_rfl) ?_
        refine R_sq Try.f71 254 255 (by kernel_rfl) ?_
        refine R_sq Try.f71 508 509 (by kernel_rfl) ?_
        refine R_rn Try.f71 508 11 [] [] 0 ⟨[(19, vb (decide (a1 > a2)))], []⟩ o0 (by kernel_rfl) (by kernel_rfl) ?_
        refine R_cn Try.f71 (.tmp 19) 1018 1019 (by kernel_rfl) (decide (a1 > a2)) (by kernel_rfl) (fun b11 => ?_) (fun b11 => ?_)
        · replace hm := bif_t b11 hm
          refine R_sq Try.f71 2036 2037 (by kernel_rfl) ?_
          refine R_rn Try.f71 2036 12 [] [] 0 ⟨[(4, vi 1)], []⟩ o0 (by kernel_rfl) (by kernel_rfl) ?_
          obtain rfl := Option.some.inj hm
          refine R_ret (by kernel_rfl) ?_
          exact ret_mk (by kernel_rfl) (by kernel_rfl)
        · replace hm := bif_f b11 hm
          refine R_skip (by kernel_rfl) ?_
          refine R_sq Try.f71 510 511 (by kernel_rfl) ?_
          refine R_rn Try.f71 510 13 [] [] 0 ⟨[(4, vi 0)], []⟩ o0 (by kernel_rfl) (by kernel_rfl) ?_
          obtain rfl := Option.some.inj hm
          refine R_ret (by kernel_rfl) ?_
          exact ret_mk (by kernel_rfl) (by kernel_rfl)

end Saw
end Go.SL
