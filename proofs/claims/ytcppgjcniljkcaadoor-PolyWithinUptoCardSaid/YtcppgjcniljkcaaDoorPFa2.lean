import Derived.Test.YtcppgjcniljkcaaDoorPBase
import Derived.Test.YtcppgjcniljkcaaDoorPFa1
import Derived.Test.YtcppgjcniljkcaaDoorYa5
import Derived.Test.YtcppgjcniljkcaaDoorPCmp
import Derived.Ground.SlsfProg
set_option linter.unusedVariables false
set_option linter.unusedSimpArgs false
namespace Go.SL
namespace Saw
open Go.Proofs
set_option maxHeartbeats 4000000

def poly_Turn_x (r : (List Point)) : V := vo 0 0 2 r.length

def poly_Turn_o (r : (List Point)) : List (Nat × (Nat × O)) := [(0, ro 0 38 2 r.length (rf e_Point r))]

theorem poly_Turn_f (r : (List Point)) : Frozen (poly_Turn_o r) := by
  intro i k o h
  unfold poly_Turn_o at h
  rw [look_cons] at h
  split at h
  · cases h; exact fun _ _ => rfl
  · cases h

def poly_Turn_L1_S (a1 : List Point) (a2 : Int) (l8 : List Point) (l8n : Nat) (x9 : Int) : St :=
  ⟨[(5, vp 0 0), (6, vo 1 0 2 l8n), (21, vc (tl e_Point default a1)), (22, vi ((a1.length : Nat) : Int)), (23, vi x9)], [(0, bx 38 [ci ((tab_turns.getD (Int.tmod (w64 ((Int.tmod a2 4) + 4)) 4).toNat default).X), ci ((tab_turns.getD (Int.tmod (w64 ((Int.tmod a2 4) + 4)) 4).toNat default).Y)]), (1, ro 0 38 2 l8n (rf e_Point l8))]⟩

def poly_Turn_L1_T (l13 : List Point) : St :=
  ⟨[(6, vo 1 0 2 l13.length)], [(1, ro 0 38 2 l13.length (rf e_Point l13))]⟩

set_option maxRecDepth 100000 in
theorem poly_Turn_L1_ok (E : Env 0) (a1 : List Point) (a2 : Int) : ∀ (n : Nat) (l8 : List Point) (l8n : Nat) (x9 : Int) (res : (List Point)), l8.length = l8n → poly_Turn_L1 a1 a2 n l8 x9 = some res → HL (kx E 56 0) (nd Tryd.f21 500) (loopQ0 0 (fun o => poly_Turn_L1_T o) res) n (poly_Turn_L1_S a1 a2 l8 l8n x9) := by
  intro n
  induction n with
  | zero =>
    intro l8 l8n x9 res hl0 hm
    cases hm
  | succ n ih =>
    intro l8 l8n x9 res hl0 hm
    subst hl0
    refine HL_succ ?_
    refine R_sq Tryd.f21 1000 1001 (by kernel_rfl) ?_
    refine R_rn Tryd.f21 1000 6 [] [] 2 ⟨[(5, vp 0 0), (6, vo 1 0 2 l8.length), (21, vc (tl e_Point default a1)), (22, vi ((a1.length : Nat) : Int)), (23, vi x9), (24, vb (decide (x9 < ((a1.length : Nat) : Int))))], [(0, bx 38 [ci ((tab_turns.getD (Int.tmod (w64 ((Int.tmod a2 4) + 4)) 4).toNat default).X), ci ((tab_turns.getD (Int.tmod (w64 ((Int.tmod a2 4) + 4)) 4).toNat default).Y)]), (1, ro 0 38 2 l8.length (rf e_Point l8))]⟩ o0 (by kernel_rfl) (by kernel_rfl) ?_
    refine R_sq Tryd.f21 2002 2003 (by kernel_rfl) ?_
    refine R_cn Tryd.f21 (.tmp 24) 4004 4005 (by kernel_rfl) (decide (x9 < ((a1.length : Nat) : Int))) (by kernel_rfl) (fun b10 => ?_) (fun b10 => ?_)
    · replace hm := bif_t b10 hm
      refine R_skip (by kernel_rfl) ?_
      refine R_sq Tryd.f21 4006 4007 (by kernel_rfl) ?_
      refine R_bk Tryd.f21 1 8012 (by kernel_rfl) ?_
      refine R_sq Tryd.f21 16024 16025 (by kernel_rfl) ?_
      obtain ⟨g11, hm⟩ := bif_n hm
      refine R_rn Tryd.f21 16024 7 [] [] 2 ⟨[(5, vp 0 0), (6, vo 1 0 2 l8.length), (7, vi x9), (8, vp 2 0), (21, vc (tl e_Point default a1)), (22, vi ((a1.length : Nat) : Int)), (23, vi x9)], [(0, bx 38 [ci ((tab_turns.getD (Int.tmod (w64 ((Int.tmod a2 4) + 4)) 4).toNat default).X), ci ((tab_turns.getD (Int.tmod (w64 ((Int.tmod a2 4) + 4)) 4).toNat default).Y)]), (1, ro 0 38 2 l8.length (rf e_Point l8)), (2, bx 38 [ci ((a1.getD x9.toNat default).X), ci ((a1.getD x9.toNat default).Y)])]⟩ (o1 (inb_of g11)) (by kernel_rfl) (by kernel_rfl) ?_
      obtain ⟨g12, hm⟩ := bif_n hm
      refine R_rn Tryd.f21 16025 8 [(26, drw 0 0 (rf e_Point (l8.set x9.toNat (Point.mk (w64 ((w64 (((tab_turns.getD (Int.tmod (w64 ((Int.tmod a2 4) + 4)) 4).toNat default).X) * ((a1.getD x9.toNat default).X))) - (w64 (((tab_turns.getD (Int.tmod (w64 ((Int.tmod a2 4) + 4)) 4).toNat default).Y) * ((a1.getD x9.toNat default).Y))))) (w64 ((w64 (((tab_turns.getD (Int.tmod (w64 ((Int.tmod a2 4) + 4)) 4).toNat default).Y) * ((a1.getD x9.toNat default).X))) + (w64 (((tab_turns.getD (Int.tmod (w64 ((Int.tmod a2 4) + 4)) 4).toNat default).X) * ((a1.getD x9.toNat default).Y)))))))))] [] 3 ⟨[(5, vp 0 0), (6, vo 1 0 2 l8.length), (21, vc (tl e_Point default a1)), (22, vi ((a1.length : Nat) : Int)), (23, vi x9)], [(0, bx 38 [ci ((tab_turns.getD (Int.tmod (w64 ((Int.tmod a2 4) + 4)) 4).toNat default).X), ci ((tab_turns.getD (Int.tmod (w64 ((Int.tmod a2 4) + 4)) 4).toNat default).Y)]), (1, ro 0 38 2 l8.length (rf e_Point (l8.set x9.toNat (Point.mk (w64 ((w64 (((tab_turns.getD (Int.tmod (w64 ((Int.tmod a2 4) + 4)) 4).toNat default).X) * ((a1.getD x9.toNat default).X))) - (w64 (((tab_turns.getD (Int.tmod (w64 ((Int.tmod a2 4) + 4)) 4).toNat default).Y) * ((a1.getD x9.toNat default).Y))))) (w64 ((w64 (((tab_turns.getD (Int.tmod (w64 ((Int.tmod a2 4) + 4)) 4).toNat default).Y) * ((a1.getD x9.toNat default).X))) + (w64 (((tab_turns.getD (Int.tmod (w64 ((Int.tmod a2 4) + 4)) 4).toNat default).X) * ((a1.getD x9.toNat default).Y)))))))))]⟩ (o1 (And.intro (inb_of g12) (stP e_Point default (Point.mk (w64 ((w64 (((tab_turns.getD (Int.tmod (w64 ((Int.tmod a2 4) + 4)) 4).toNat default).X) * ((a1.getD x9.toNat default).X))) - (w64 (((tab_turns.getD (Int.tmod (w64 ((Int.tmod a2 4) + 4)) 4).toNat default).Y) * ((a1.getD x9.toNat default).Y))))) (w64 ((w64 (((tab_turns.getD (Int.tmod (w64 ((Int.tmod a2 4) + 4)) 4).toNat default).Y) * ((a1.getD x9.toNat default).X))) + (w64 (((tab_turns.getD (Int.tmod (w64 ((Int.tmod a2 4) + 4)) 4).toNat default).X) * ((a1.getD x9.toNat default).Y)))))) l8 l8.length x9.toNat 0 [ci (w64 ((w64 (((tab_turns.getD (Int.tmod (w64 ((Int.tmod a2 4) + 4)) 4).toNat default).X) * ((a1.getD x9.toNat default).X))) - (w64 (((tab_turns.getD (Int.tmod (w64 ((Int.tmod a2 4) + 4)) 4).toNat default).Y) * ((a1.getD x9.toNat default).Y))))), ci (w64 ((w64 (((tab_turns.getD (Int.tmod (w64 ((Int.tmod a2 4) + 4)) 4).toNat default).Y) * ((a1.getD x9.toNat default).X))) + (w64 (((tab_turns.getD (Int.tmod (w64 ((Int.tmod a2 4) + 4)) 4).toNat default).X) * ((a1.getD x9.toNat default).Y)))))] rfl (toNat_lt (inb_of g12)) rfl))) (by kernel_rfl) (by kernel_rfl) ?_
      refine R_rn Tryd.f21 4007 9 [] [] 3 ⟨[(5, vp 0 0), (6, vo 1 0 2 l8.length), (21, vc (tl e_Point default a1)), (22, vi ((a1.length : Nat) : Int)), (23, vi (w64 (x9 + 1)))], [(0, bx 38 [ci ((tab_turns.getD (Int.tmod (w64 ((Int.tmod a2 4) + 4)) 4).toNat default).X), ci ((tab_turns.getD (Int.tmod (w64 ((Int.tmod a2 4) + 4)) 4).toNat default).Y)]), (1, ro 0 38 2 l8.length (rf e_Point (l8.set x9.toNat (Point.mk (w64 ((w64 (((tab_turns.getD (Int.tmod (w64 ((Int.tmod a2 4) + 4)) 4).toNat default).X) * ((a1.getD x9.toNat default).X))) - (w64 (((tab_turns.getD (Int.tmod (w64 ((Int.tmod a2 4) + 4)) 4).toNat default).Y) * ((a1.getD x9.toNat default).Y))))) (w64 ((w64 (((tab_turns.getD (Int.tmod (w64 ((Int.tmod a2 4) + 4)) 4).toNat default).Y) * ((a1.getD x9.toNat default).X))) + (w64 (((tab_turns.getD (Int.tmod (w64 ((Int.tmod a2 4) + 4)) 4).toNat default).X) * ((a1.getD x9.toNat default).Y)))))))))]⟩ o0 (by kernel_rfl) (by kernel_rfl) ?_
      exact HL_enter (poly_Turn_L1_S a1 a2 (l8.set x9.toNat (Point.mk (w64 ((w64 (((tab_turns.getD (Int.tmod (w64 ((Int.tmod a2 4) + 4)) 4).toNat default).X) * ((a1.getD x9.toNat default).X))) - (w64 (((tab_turns.getD (Int.tmod (w64 ((Int.tmod a2 4) + 4)) 4).toNat default).Y) * ((a1.getD x9.toNat default).Y))))) (w64 ((w64 (((tab_turns.getD (Int.tmod (w64 ((Int.tmod a2 4) + 4)) 4).toNat default).Y) * ((a1.getD x9.toNat default).X))) + (w64 (((tab_turns.getD (Int.tmod (w64 ((Int.tmod a2 4) + 4)) 4).toNat default).X) * ((a1.getD x9.toNat default).Y))))))) l8.length (w64 (x9 + 1))) (by kernel_rfl) (by kernel_rfl) (ih (l8.set x9.toNat (Point.mk (w64 ((w64 (((tab_turns.getD (Int.tmod (w64 ((Int.tmod a2 4) + 4)) 4).toNat default).X) * ((a1.getD x9.toNat default).X))) - (w64 (((tab_turns.getD (Int.tmod (w64 ((Int.tmod a2 4) + 4)) 4).toNat default).Y) * ((a1.getD x9.toNat default).Y))))) (w64 ((w64 (((tab_turns.getD (Int.tmod (w64 ((Int.tmod a2 4) + 4)) 4).toNat default).Y) * ((a1.getD x9.toNat default).X))) + (w64 (((tab_turns.getD (Int.tmod (w64 ((Int.tmod a2 4) + 4)) 4).toNat default).X) * ((a1.getD x9.toNat default).Y))))))) l8.length (w64 (x9 + 1)) _ (len_set rfl) hm)
    · replace hm := bif_f b10 hm
      refine R_exit 0 (by kernel_rfl) ?_
      obtain rfl := Option.some.inj hm
      exact L0_mk (by kernel_rfl) (by kernel_rfl)

set_option maxRecDepth 100000 in
theorem poly_Turn_ok (a1 : List Point) (a2 : Int) (r : (List Point)) (hm : poly_Turn a1 a2 = some r) : CtX Tryd.prog globs 21 0 0 [.one (tl e_Point default a1), .one (ci a2)] [] (poly_Turn_x r) (poly_Turn_o r) := by
  unfold poly_Turn at hm
  refine CtX_of_E (fn := Tryd.f21) (c := nd Tryd.f21 1) (nt := 56) (by kernel_rfl) (by kernel_rfl) (by kernel_rfl) (by kernel_rfl) fun E => ?_
  refine R_sq Tryd.f21 2 3 (by kernel_rfl) ?_
  refine R_rn Tryd.f21 2 0 [] [] 0 ⟨[(0, vc (tl e_Point default a1)), (1, vi a2)], []⟩ o0 (by kernel_rfl) (by kernel_rfl) ?_
  refine R_sq Tryd.f21 6 7 (by kernel_rfl) ?_
  refine R_sq Tryd.f21 12 13 (by kernel_rfl) ?_
  obtain ⟨v3, h4, hm⟩ := bind_s hm
  refine R_rn Tryd.f21 12 1 [(1, dex (cen [] [] 0 0 (poly_canTurn_x v3) (poly_canTurn_o v3) [9] []))] [] 0 ⟨[(0, vc (tl e_Point default a1)), (1, vi a2), (11, vb (!v3))], []⟩ (o1 (callS (K := (kx E 56 0)) ⟨[(9, vc (tl e_Point default a1))], []⟩ (opAt (rg Tryd.f21 12) 1) [] [] 0 o0 rfl (poly_canTurn_ok a1 v3 h4) (.inl rfl) (by kernel_rfl))) (by kernel_rfl) (by kernel_rfl) ?_
  refine R_cn Tryd.f21 (.tmp 11) 26 27 (by kernel_rfl) (!v3) (by kernel_rfl) (fun b5 => ?_) (fun b5 => ?_)
  · replace hm := bif_t b5 hm
    refine R_sq Tryd.f21 52 53 (by kernel_rfl) ?_
    refine R_rn Tryd.f21 52 2 [] [] 0 ⟨[(4, vc (.emp))], []⟩ o0 (by kernel_rfl) (by kernel_rfl) ?_
    refine H_fin [.own 4 0 38 2 (rf e_Point ([] : List Point))] ⟨[(4, vo 0 0 2 0)], [(0, ro 0 38 2 0 (rf e_Point ([] : List Point)))]⟩ o0 (by kernel_rfl) ?_
    refine H_fin [.len 0 (([] : List Point).length)] ⟨[(4, vo 0 0 2 (([] : List Point).length))], [(0, ro 0 38 2 (([] : List Point).length) (rf e_Point ([] : List Point)))]⟩ (o1 (And.intro (show 0 = ([] : List Point).length from rfl) (show 0 = ([] : List Point).length from rfl))) (by kernel_rfl) ?_
    obtain rfl := Option.some.inj hm
    refine R_ret (by kernel_rfl) ?_
    exact ret_mk (by kernel_rfl) (by kernel_rfl)
  · replace hm := bif_f b5 hm
    refine R_skip (by kernel_rfl) ?_
    refine R_sq Tryd.f21 14 15 (by kernel_rfl) ?_
    obtain ⟨g6, hm⟩ := bif_n hm
    refine R_rn Tryd.f21 14 3 [] [] 0 ⟨[(0, vc (tl e_Point default a1)), (5, vp 0 0)], [(0, bx 38 [ci ((tab_turns.getD (Int.tmod (w64 ((Int.tmod a2 4) + 4)) 4).toNat default).X), ci ((tab_turns.getD (Int.tmod (w64 ((Int.tmod a2 4) + 4)) 4).toNat default).Y)])]⟩ (o1 (And.intro (show (4 : Int) ≠ 0 by decide) (And.intro (show (4 : Int) ≠ 0 by decide) (inb_of g6)))) (by kernel_rfl) (by kernel_rfl) ?_
    refine R_sq Tryd.f21 30 31 (by kernel_rfl) ?_
    obtain ⟨g7, hm⟩ := bif_n hm
    refine R_rn Tryd.f21 30 4 [(2, drw 1 0 (rf e_Point (List.replicate (((a1.length : Nat) : Int).toNat) (Point.mk 0 0))))] [] 1 ⟨[(0, vc (tl e_Point default a1)), (5, vp 0 0), (6, vo 1 0 2 (((a1.length : Nat) : Int).toNat))], [(0, bx 38 [ci ((tab_turns.getD (Int.tmod (w64 ((Int.tmod a2 4) + 4)) 4).toNat default).X), ci ((tab_turns.getD (Int.tmod (w64 ((Int.tmod a2 4) + 4)) 4).toNat default).Y)]), (1, ro 0 38 2 (((a1.length : Nat) : Int).toNat) (rf e_Point (List.replicate (((a1.length : Nat) : Int).toNat) (Point.mk 0 0))))]⟩ (o1 (mkP e_Point default (Point.mk 0 0) ((a1.length : Nat) : Int) 16 [ci 0, ci 0] (mkOk_of g7) rfl)) (by kernel_rfl) (by kernel_rfl) ?_
    refine R_sq Tryd.f21 62 63 (by kernel_rfl) ?_
    refine R_sq Tryd.f21 124 125 (by kernel_rfl) ?_
    refine R_rn Tryd.f21 124 5 [] [] 2 ⟨[(5, vp 0 0), (6, vo 1 0 2 (((a1.length : Nat) : Int).toNat)), (21, vc (tl e_Point default a1)), (22, vi ((a1.length : Nat) : Int)), (23, vi 0)], [(0, bx 38 [ci ((tab_turns.getD (Int.tmod (w64 ((Int.tmod a2 4) + 4)) 4).toNat default).X), ci ((tab_turns.getD (Int.tmod (w64 ((Int.tmod a2 4) + 4)) 4).toNat default).Y)]), (1, ro 0 38 2 (((a1.length : Nat) : Int).toNat) (rf e_Point (List.replicate (((a1.length : Nat) : Int).toNat) (Point.mk 0 0))))]⟩ o0 (by kernel_rfl) (by kernel_rfl) ?_
    obtain ⟨o14, h15, hm⟩ := bind_s hm
    refine R_loop0 (nd Tryd.f21 500) 0 (by kernel_rfl) FUEL (fun o => poly_Turn_L1_T o) o14 (HL_enter (poly_Turn_L1_S a1 a2 (List.replicate (((a1.length : Nat) : Int).toNat) (Point.mk 0 0)) (((a1.length : Nat) : Int).toNat) 0) (by kernel_rfl) (by kernel_rfl) (poly_Turn_L1_ok E a1 a2 FUEL (List.replicate (((a1.length : Nat) : Int).toNat) (Point.mk 0 0)) (((a1.length : Nat) : Int).toNat) 0 o14 len_rep h15)) ?_
    refine R_sq Tryd.f21 126 127 (by kernel_rfl) ?_
    refine R_rn Tryd.f21 126 10 [] [] 2 ⟨[(4, vo 1 0 2 o14.length)], [(1, ro 0 38 2 o14.length (rf e_Point o14))]⟩ o0 (by kernel_rfl) (by kernel_rfl) ?_
    obtain rfl := Option.some.inj hm
    refine H_swap 1 0 (by kernel_rfl) ?_
    refine R_ret (by kernel_rfl) ?_
    exact ret_mk (by kernel_rfl) (by kernel_rfl)

end Saw
end Go.SL

namespace Go.SL
namespace Saw
open Go.Proofs
set_option maxHeartbeats 4000000

def ref09_Same_x (r : Bool) : V := vb r

def ref09_Same_o (r : Bool) : List (Nat × (Nat × O)) := []

theorem ref09_Same_f (r : Bool) : Frozen (ref09_Same_o r) := by
  intro i k o h
  unfold ref09_Same_o at h
  cases h

def ref09_Same_L1_S (a1 : List Point) (a2 : List Point) (x4 : Int) : St :=
  ⟨[(0, vc (tl e_Point default a1)), (1, vc (tl e_Point default a2)), (5, vi x4)], []⟩

def ref09_Same_L1_T : St :=
  ⟨[], []⟩

set_option maxRecDepth 100000 in
theorem ref09_Same_L1_ok (E : Env 0) (a1 : List Point) (a2 : List Point) : ∀ (n : Nat) (x4 : Int) (res : Bool ⊕ Unit), ref09_Same_L1 a1 a2 n x4 = some res → HL (kx E 26 0) (nd Tryd.f20 116) (loopQ 0 (fun o => ref09_Same_L1_T) (fun v st => RetQ Tryd.prog Tryd.f20 (ref09_Same_x v) (ref09_Same_o v) .ret st) res) n (ref09_Same_L1_S a1 a2 x4) := by
  intro n
  induction n with
  | zero =>
    intro x4 res hm
    cases hm
  | succ n ih =>
    intro x4 res hm
    refine HL_succ ?_
    refine R_sq Tryd.f20 232 233 (by kernel_rfl) ?_
    refine R_sq Tryd.f20 464 465 (by kernel_rfl) ?_
    refine R_rn Tryd.f20 464 4 [] [] 0 ⟨[(0, vc (tl e_Point default a1)), (1, vc (tl e_Point default a2)), (5, vi x4), (14, vb (decide (x4 < ((a1.length : Nat) : Int))))], []⟩ o0 (by kernel_rfl) (by kernel_rfl) ?_
    refine R_cn Tryd.f20 (.tmp 14) 930 931 (by kernel_rfl) (decide (x4 < ((a1.length : Nat) : Int))) (by kernel_rfl) (fun b5 => ?_) (fun b5 => ?_)
    · replace hm := bif_t b5 hm
      refine R_skip (by kernel_rfl) ?_
      refine R_sq Tryd.f20 466 467 (by kernel_rfl) ?_
      refine R_bk Tryd.f20 1 932 (by kernel_rfl) ?_
      refine R_sq Tryd.f20 1864 1865 (by kernel_rfl) ?_
      obtain ⟨g6, hm⟩ := bif_n hm
      obtain ⟨g7, hm⟩ := bif_n hm
      refine R_dr Tryd.f20 1864 6 [] [] [] [0, 0, 3, 7, 0, 0, 48, 112, 255] 0 ⟨[(0, vc (tl e_Point default a1)), (1, vc (tl e_Point default a2)), (5, vi x4), (25, vb (!((((a1.getD x4.toNat default).X) == ((a2.getD x4.toNat default).X)) && ((((a1.getD x4.toNat default).Y) == ((a2.getD x4.toNat default).Y)) && true))))], []⟩ (o1 (And.intro (inb_of g6) (inb_of g7))) (by kernel_rfl) (by kernel_rfl) ?_
      refine R_cn Tryd.f20 (.tmp 25) 3730 3731 (by kernel_rfl) (!((((a1.getD x4.toNat default).X) == ((a2.getD x4.toNat default).X)) && ((((a1.getD x4.toNat default).Y) == ((a2.getD x4.toNat default).Y)) && true))) (by kernel_rfl) (fun b8 => ?_) (fun b8 => ?_)
      · replace hm := bif_t b8 hm
        refine R_sq Tryd.f20 7460 7461 (by kernel_rfl) ?_
        refine R_rn Tryd.f20 7460 7 [] [] 0 ⟨[(4, vb false)], []⟩ o0 (by kernel_rfl) (by kernel_rfl) ?_
        obtain rfl := Option.some.inj hm
        refine R_ret (by kernel_rfl) ?_
        refine L1_ret false ?_
        exact ret_mk (by kernel_rfl) (by kernel_rfl)
      · replace hm := bif_f b8 hm
        refine R_skip (by kernel_rfl) ?_
        refine R_rn Tryd.f20 467 5 [] [] 0 ⟨[(0, vc (tl e_Point default a1)), (1, vc (tl e_Point default a2)), (5, vi (w64 (x4 + 1)))], []⟩ o0 (by kernel_rfl) (by kernel_rfl) ?_
        exact HL_enter (ref09_Same_L1_S a1 a2 (w64 (x4 + 1))) (by kernel_rfl) (by kernel_rfl) (ih (w64 (x4 + 1)) _ hm)
    · replace hm := bif_f b5 hm
      refine R_exit 0 (by kernel_rfl) ?_
      obtain rfl := Option.some.inj hm
      exact L1_mk () (by kernel_rfl) (by kernel_rfl)

set_option maxRecDepth 100000 in
theorem ref09_Same_ok (a1 : List Point) (a2 : List Point) (r : Bool) (hm : ref09_Same a1 a2 = some r) : CtX Tryd.prog globs 20 0 0 [.one (tl e_Point default a1), .one (tl e_Point default a2)] [] (ref09_Same_x r) (ref09_Same_o r) := by
  unfold ref09_Same at hm
  refine CtX_of_E (fn := Tryd.f20) (c := nd Tryd.f20 1) (nt := 26) (by kernel_rfl) (by kernel_rfl) (by kernel_rfl) (by kernel_rfl) fun E => ?_
  refine R_sq Tryd.f20 2 3 (by kernel_rfl) ?_
  refine R_rn Tryd.f20 2 0 [] [] 0 ⟨[(0, vc (tl e_Point default a1)), (1, vc (tl e_Point default a2))], []⟩ o0 (by kernel_rfl) (by kernel_rfl) ?_
  refine R_sq Tryd.f20 6 7 (by kernel_rfl) ?_
  refine R_sq Tryd.f20 12 13 (by kernel_rfl) ?_
  refine R_rn Tryd.f20 12 1 [] [] 0 ⟨[(0, vc (tl e_Point default a1)), (1, vc (tl e_Point default a2)), (10, vb (((a1.length : Nat) : Int) != ((a2.length : Nat) : Int)))], []⟩ o0 (by kernel_rfl) (by kernel_rfl) ?_
  refine R_cn Tryd.f20 (.tmp 10) 26 27 (by kernel_rfl) (((a1.length : Nat) : Int) != ((a2.length : Nat) : Int)) (by kernel_rfl) (fun b3 => ?_) (fun b3 => ?_)
  · replace hm := bif_t b3 hm
    refine R_sq Tryd.f20 52 53 (by kernel_rfl) ?_
    refine R_rn Tryd.f20 52 2 [] [] 0 ⟨[(4, vb false)], []⟩ o0 (by kernel_rfl) (by kernel_rfl) ?_
    obtain rfl := Option.some.inj hm
    refine R_ret (by kernel_rfl) ?_
    exact ret_mk (by kernel_rfl) (by kernel_rfl)
  · replace hm := bif_f b3 hm
    refine R_skip (by kernel_rfl) ?_
    refine R_sq Tryd.f20 14 15 (by kernel_rfl) ?_
    refine R_sq Tryd.f20 28 29 (by kernel_rfl) ?_
    refine R_rn Tryd.f20 28 3 [] [] 0 ⟨[(0, vc (tl e_Point default a1)), (1, vc (tl e_Point default a2)), (5, vi 0)], []⟩ o0 (by kernel_rfl) (by kernel_rfl) ?_
    obtain ⟨u11, h10, hm⟩ := bind_s hm
    refine R_loop1 (nd Tryd.f20 116) 0 (by kernel_rfl) FUEL (fun o => ref09_Same_L1_T) (fun v st => RetQ Tryd.prog Tryd.f20 (ref09_Same_x v) (ref09_Same_o v) .ret st) u11 (HL_enter (ref09_Same_L1_S a1 a2 0) (by kernel_rfl) (by kernel_rfl) (ref09_Same_L1_ok E a1 a2 FUEL 0 u11 h10)) ?_ ?_
    · rintro v12 rfl st hr
      obtain rfl := Option.some.inj hm
      exact hr
    · rintro o9 rfl
      replace hm : _ = some r := hm
      refine R_sq Tryd.f20 30 31 (by kernel_rfl) ?_
      refine R_rn Tryd.f20 30 8 [] [] 0 ⟨[(4, vb true)], []⟩ o0 (by kernel_rfl) (by kernel_rfl) ?_
      obtain rfl := Option.some.inj hm
      refine R_ret (by kernel_rfl) ?_
      exact ret_mk (by kernel_rfl) (by kernel_rfl)

end Saw
end Go.SL

namespace Go.SL
namespace Saw
open Go.Proofs
set_option maxHeartbeats 4000000

def poly_Mirror_x (r : (List Point)) : V := vo 0 0 2 r.length

def poly_Mirror_o (r : (List Point)) : List (Nat × (Nat × O)) := [(0, ro 0 38 2 r.length (rf e_Point r))]

theorem poly_Mirror_f (r : (List Point)) : Frozen (poly_Mirror_o r) := by
  intro i k o h
  unfold poly_Mirror_o at h
  rw [look_cons] at h
  split at h
  · cases h; exact fun _ _ => rfl
  · cases h

def poly_Mirror_L1_S (a1 : List Point) (l6 : List Point) (l6n : Nat) (x7 : Int) : St :=
  ⟨[(0, vc (tl e_Point default a1)), (3, vo 0 0 2 l6n), (12, vc (tl e_Point default a1)), (13, vi ((a1.length : Nat) : Int)), (14, vi x7)], [(0, ro 0 38 2 l6n (rf e_Point l6))]⟩

def poly_Mirror_L1_T (l11 : List Point) : St :=
  ⟨[(3, vo 0 0 2 l11.length)], [(0, ro 0 38 2 l11.length (rf e_Point l11))]⟩

set_option maxRecDepth 100000 in
theorem poly_Mirror_L1_ok (E : Env 0) (a1 : List Point) : ∀ (n : Nat) (l6 : List Point) (l6n : Nat) (x7 : Int) (res : (List Point)), l6.length = l6n → poly_Mirror_L1 a1 n l6 x7 = some res → HL (kx E 34 0) (nd Tryd.f23 244) (loopQ0 0 (fun o => poly_Mirror_L1_T o) res) n (poly_Mirror_L1_S a1 l6 l6n x7) := by
  intro n
  induction n with
  | zero =>
    intro l6 l6n x7 res hl0 hm
    cases hm
  | succ n ih =>
    intro l6 l6n x7 res hl0 hm
    subst hl0
    refine HL_succ ?_
    refine R_sq Tryd.f23 488 489 (by kernel_rfl) ?_
    refine R_rn Tryd.f23 488 5 [] [] 1 ⟨[(0, vc (tl e_Point default a1)), (3, vo 0 0 2 l6.length), (12, vc (tl e_Point default a1)), (13, vi ((a1.length : Nat) : Int)), (14, vi x7), (15, vb (decide (x7 < ((a1.length : Nat) : Int))))], [(0, ro 0 38 2 l6.length (rf e_Point l6))]⟩ o0 (by kernel_rfl) (by kernel_rfl) ?_
    refine R_sq Tryd.f23 978 979 (by kernel_rfl) ?_
    refine R_cn Tryd.f23 (.tmp 15) 1956 1957 (by kernel_rfl) (decide (x7 < ((a1.length : Nat) : Int))) (by kernel_rfl) (fun b8 => ?_) (fun b8 => ?_)
    · replace hm := bif_t b8 hm
      refine R_skip (by kernel_rfl) ?_
      refine R_sq Tryd.f23 1958 1959 (by kernel_rfl) ?_
      refine R_bk Tryd.f23 1 3916 (by kernel_rfl) ?_
      refine R_sq Tryd.f23 7832 7833 (by kernel_rfl) ?_
      obtain ⟨g9, hm⟩ := bif_n hm
      refine R_rn Tryd.f23 7832 6 [] [] 1 ⟨[(0, vc (tl e_Point default a1)), (3, vo 0 0 2 l6.length), (4, vi x7), (5, vp 1 0), (12, vc (tl e_Point default a1)), (13, vi ((a1.length : Nat) : Int)), (14, vi x7)], [(0, ro 0 38 2 l6.length (rf e_Point l6)), (1, bx 38 [ci ((a1.getD x7.toNat default).X), ci ((a1.getD x7.toNat default).Y)])]⟩ (o1 (inb_of g9)) (by kernel_rfl) (by kernel_rfl) ?_
      obtain ⟨g10, hm⟩ := bif_n hm
      refine R_rn Tryd.f23 7833 7 [(13, drw 0 0 (rf e_Point (l6.set ((w64 ((w64 (((a1.length : Nat) : Int) - 1)) - x7)).toNat) (Point.mk (w64 (0 - ((a1.getD x7.toNat default).X))) ((a1.getD x7.toNat default).Y)))))] [] 2 ⟨[(0, vc (tl e_Point default a1)), (3, vo 0 0 2 l6.length), (12, vc (tl e_Point default a1)), (13, vi ((a1.length : Nat) : Int)), (14, vi x7)], [(0, ro 0 38 2 l6.length (rf e_Point (l6.set ((w64 ((w64 (((a1.length : Nat) : Int) - 1)) - x7)).toNat) (Point.mk (w64 (0 - ((a1.getD x7.toNat default).X))) ((a1.getD x7.toNat default).Y)))))]⟩ (o1 (And.intro (inb_of g10) (stP e_Point default (Point.mk (w64 (0 - ((a1.getD x7.toNat default).X))) ((a1.getD x7.toNat default).Y)) l6 l6.length ((w64 ((w64 (((a1.length : Nat) : Int) - 1)) - x7)).toNat) 0 [ci (w64 (0 - ((a1.getD x7.toNat default).X))), ci ((a1.getD x7.toNat default).Y)] rfl (toNat_lt (inb_of g10)) rfl))) (by kernel_rfl) (by kernel_rfl) ?_
      refine R_rn Tryd.f23 1959 8 [] [] 2 ⟨[(0, vc (tl e_Point default a1)), (3, vo 0 0 2 l6.length), (12, vc (tl e_Point default a1)), (13, vi ((a1.length : Nat) : Int)), (14, vi (w64 (x7 + 1)))], [(0, ro 0 38 2 l6.length (rf e_Point (l6.set ((w64 ((w64 (((a1.length : Nat) : Int) - 1)) - x7)).toNat) (Point.mk (w64 (0 - ((a1.getD x7.toNat default).X))) ((a1.getD x7.toNat default).Y)))))]⟩ o0 (by kernel_rfl) (by kernel_rfl) ?_
      exact HL_enter (poly_Mirror_L1_S a1 (l6.set ((w64 ((w64 (((a1.length : Nat) : Int) - 1)) - x7)).toNat) (Point.mk (w64 (0 - ((a1.getD x7.toNat default).X))) ((a1.getD x7.toNat default).Y))) l6.length (w64 (x7 + 1))) (by kernel_rfl) (by kernel_rfl) (ih (l6.set ((w64 ((w64 (((a1.length : Nat) : Int) - 1)) - x7)).toNat) (Point.mk (w64 (0 - ((a1.getD x7.toNat default).X))) ((a1.getD x7.toNat default).Y))) l6.length (w64 (x7 + 1)) _ (len_set rfl) hm)
    · replace hm := bif_f b8 hm
      refine R_exit 0 (by kernel_rfl) ?_
      obtain rfl := Option.some.inj hm
      exact L0_mk (by kernel_rfl) (by kernel_rfl)

set_option maxRecDepth 100000 in
theorem poly_Mirror_ok (a1 : List Point) (r : (List Point)) (hm : poly_Mirror a1 = some r) : CtX Tryd.prog globs 23 0 0 [.one (tl e_Point default a1)] [] (poly_Mirror_x r) (poly_Mirror_o r) := by
  unfold poly_Mirror at hm
  refine CtX_of_E (fn := Tryd.f23) (c := nd Tryd.f23 1) (nt := 34) (by kernel_rfl) (by kernel_rfl) (by kernel_rfl) (by kernel_rfl) fun E => ?_
  refine R_sq Tryd.f23 2 3 (by kernel_rfl) ?_
  refine R_rn Tryd.f23 2 0 [] [] 0 ⟨[(0, vc (tl e_Point default a1))], []⟩ o0 (by kernel_rfl) (by kernel_rfl) ?_
  refine R_sq Tryd.f23 6 7 (by kernel_rfl) ?_
  refine R_sq Tryd.f23 12 13 (by kernel_rfl) ?_
  obtain ⟨v2, h3, hm⟩ := bind_s hm
  refine R_rn Tryd.f23 12 1 [(1, dex (cen [] [] 0 0 (poly_canTurn_x v2) (poly_canTurn_o v2) [6] []))] [] 0 ⟨[(0, vc (tl e_Point default a1)), (8, vb (!v2))], []⟩ (o1 (callS (K := (kx E 34 0)) ⟨[(6, vc (tl e_Point default a1))], []⟩ (opAt (rg Tryd.f23 12) 1) [] [] 0 o0 rfl (poly_canTurn_ok a1 v2 h3) (.inl rfl) (by kernel_rfl))) (by kernel_rfl) (by kernel_rfl) ?_
  refine R_cn Tryd.f23 (.tmp 8) 26 27 (by kernel_rfl) (!v2) (by kernel_rfl) (fun b4 => ?_) (fun b4 => ?_)
  · replace hm := bif_t b4 hm
    refine R_sq Tryd.f23 52 53 (by kernel_rfl) ?_
    refine R_rn Tryd.f23 52 2 [] [] 0 ⟨[(2, vc (.emp))], []⟩ o0 (by kernel_rfl) (by kernel_rfl) ?_
    refine H_fin [.own 2 0 38 2 (rf e_Point ([] : List Point))] ⟨[(2, vo 0 0 2 0)], [(0, ro 0 38 2 0 (rf e_Point ([] : List Point)))]⟩ o0 (by kernel_rfl) ?_
    refine H_fin [.len 0 (([] : List Point).length)] ⟨[(2, vo 0 0 2 (([] : List Point).length))], [(0, ro 0 38 2 (([] : List Point).length) (rf e_Point ([] : List Point)))]⟩ (o1 (And.intro (show 0 = ([] : List Point).length from rfl) (show 0 = ([] : List Point).length from rfl))) (by kernel_rfl) ?_
    obtain rfl := Option.some.inj hm
    refine R_ret (by kernel_rfl) ?_
    exact ret_mk (by kernel_rfl) (by kernel_rfl)
  · replace hm := bif_f b4 hm
    refine R_skip (by kernel_rfl) ?_
    refine R_sq Tryd.f23 14 15 (by kernel_rfl) ?_
    obtain ⟨g5, hm⟩ := bif_n hm
    refine R_rn Tryd.f23 14 3 [(2, drw 0 0 (rf e_Point (List.replicate (((a1.length : Nat) : Int).toNat) (Point.mk 0 0))))] [] 0 ⟨[(0, vc (tl e_Point default a1)), (3, vo 0 0 2 (((a1.length : Nat) : Int).toNat))], [(0, ro 0 38 2 (((a1.length : Nat) : Int).toNat) (rf e_Point (List.replicate (((a1.length : Nat) : Int).toNat) (Point.mk 0 0))))]⟩ (o1 (mkP e_Point default (Point.mk 0 0) ((a1.length : Nat) : Int) 16 [ci 0, ci 0] (mkOk_of g5) rfl)) (by kernel_rfl) (by kernel_rfl) ?_
    refine R_sq Tryd.f23 30 31 (by kernel_rfl) ?_
    refine R_sq Tryd.f23 60 61 (by kernel_rfl) ?_
    refine R_rn Tryd.f23 60 4 [] [] 1 ⟨[(0, vc (tl e_Point default a1)), (3, vo 0 0 2 (((a1.length : Nat) : Int).toNat)), (12, vc (tl e_Point default a1)), (13, vi ((a1.length : Nat) : Int)), (14, vi 0)], [(0, ro 0 38 2 (((a1.length : Nat) : Int).toNat) (rf e_Point (List.replicate (((a1.length : Nat) : Int).toNat) (Point.mk 0 0))))]⟩ o0 (by kernel_rfl) (by kernel_rfl) ?_
    obtain ⟨o12, h13, hm⟩ := bind_s hm
    refine R_loop0 (nd Tryd.f23 244) 0 (by kernel_rfl) FUEL (fun o => poly_Mirror_L1_T o) o12 (HL_enter (poly_Mirror_L1_S a1 (List.replicate (((a1.length : Nat) : Int).toNat) (Point.mk 0 0)) (((a1.length : Nat) : Int).toNat) 0) (by kernel_rfl) (by kernel_rfl) (poly_Mirror_L1_ok E a1 FUEL (List.replicate (((a1.length : Nat) : Int).toNat) (Point.mk 0 0)) (((a1.length : Nat) : Int).toNat) 0 o12 len_rep h13)) ?_
    refine R_sq Tryd.f23 62 63 (by kernel_rfl) ?_
    refine R_rn Tryd.f23 62 9 [] [] 1 ⟨[(2, vo 0 0 2 o12.length)], [(0, ro 0 38 2 o12.length (rf e_Point o12))]⟩ o0 (by kernel_rfl) (by kernel_rfl) ?_
    obtain rfl := Option.some.inj hm
    refine R_ret (by kernel_rfl) ?_
    exact ret_mk (by kernel_rfl) (by kernel_rfl)

end Saw
end Go.SL

namespace Go.SL
namespace Saw
open Go.Proofs
set_option maxHeartbeats 4000000

def poly_cross_x (r : Int) : V := vi r

def poly_cross_o (r : Int) : List (Nat × (Nat × O)) := []

theorem poly_cross_f (r : Int) : Frozen (poly_cross_o r) := by
  intro i k o h
  unfold poly_cross_o at h
  cases h

set_option maxRecDepth 100000 in
theorem poly_cross_ok (a1 : Point) (a2 : Point) (a3 : Point) (r : Int) (hm : poly_cross a1 a2 a3 = some r) : CtX Tryd.prog globs 43 0 0 [.agg [ci a1.X, ci a1.Y], .agg [ci a2.X, ci a2.Y], .agg [ci a3.X, ci a3.Y]] [] (poly_cross_x r) (poly_cross_o r) := by
  unfold poly_cross at hm
  refine CtX_of_E (fn := Tryd.f43) (c := nd Tryd.f43 1) (nt := 30) (by kernel_rfl) (by kernel_rfl) (by kernel_rfl) (by kernel_rfl) fun E => ?_
  refine R_sq Tryd.f43 2 3 (by kernel_rfl) ?_
  refine R_rn Tryd.f43 2 0 [] [] 0 ⟨[(3, vp 0 0), (4, vp 1 0), (5, vp 2 0)], [(0, bx 38 [ci a1.X, ci a1.Y]), (1, bx 38 [ci a2.X, ci a2.Y]), (2, bx 38 [ci a3.X, ci a3.Y])]⟩ o0 (by kernel_rfl) (by kernel_rfl) ?_
  refine R_sq Tryd.f43 6 7 (by kernel_rfl) ?_
  refine R_rn Tryd.f43 6 1 [] [] 3 ⟨[(6, vi (w64 ((w64 ((w64 (a2.X - a1.X)) * (w64 (a3.Y - a1.Y)))) - (w64 ((w64 (a3.X - a1.X)) * (w64 (a2.Y - a1.Y)))))))], []⟩ o0 (by kernel_rfl) (by kernel_rfl) ?_
  obtain rfl := Option.some.inj hm
  refine R_ret (by kernel_rfl) ?_
  exact ret_mk (by kernel_rfl) (by kernel_rfl)

end Saw
end Go.SL

namespace Go.SL
namespace Saw
open Go.Proofs
set_option maxHeartbeats 4000000

def poly_onEdge_x (r : Bool) : V := vb r

def poly_onEdge_o (r : Bool) : List (Nat × (Nat × O)) := []

theorem poly_onEdge_f (r : Bool) : Frozen (poly_onEdge_o r) := by
  intro i k o h
  unfold poly_onEdge_o at h
  cases h

def poly_onEdge_k1_S (x10 : Bool) : St :=
  ⟨[(6, vb x10)], []⟩

set_option maxRecDepth 100000 in
theorem poly_onEdge_ok (a1 : Point) (a2 : Point) (a3 : Point) (r : Bool) (hm : poly_onEdge a1 a2 a3 = some r) : CtX Tryd.prog globs 42 0 0 [.agg [ci a1.X, ci a1.Y], .agg [ci a2.X, ci a2.Y], .agg [ci a3.X, ci a3.Y]] [] (poly_onEdge_x r) (poly_onEdge_o r) := by
  unfold poly_onEdge at hm
  refine CtX_of_E (fn := Tryd.f42) (c := nd Tryd.f42 1) (nt := 52) (by kernel_rfl) (by kernel_rfl) (by kernel_rfl) (by kernel_rfl) fun E => ?_
  refine R_sq Tryd.f42 2 3 (by kernel_rfl) ?_
  refine R_rn Tryd.f42 2 0 [] [] 0 ⟨[(3, vp 0 0), (4, vp 1 0), (5, vp 2 0)], [(0, bx 38 [ci a1.X, ci a1.Y]), (1, bx 38 [ci a2.X, ci a2.Y]), (2, bx 38 [ci a3.X, ci a3.Y])]⟩ o0 (by kernel_rfl) (by kernel_rfl) ?_
  refine R_join (ι := Bool) (nd Tryd.f42 6) (nd Tryd.f42 7) (by kernel_rfl) (fun p => poly_onEdge_k1_S p) (fun p => poly_onEdge_k1 p = some r) ?_ ?_
  · rintro x10 hm
    show H _ (poly_onEdge_k1_S x10) (nd Tryd.f42 7) _
    obtain rfl := Option.some.inj hm
    refine R_ret (by kernel_rfl) ?_
    exact ret_mk (by kernel_rfl) (by kernel_rfl)
  · obtain ⟨v4, h5, hm⟩ := bind_s hm
    rcases Bool.eq_false_or_eq_true (v4 == 0) with b6 | b6
    · replace hm := bif_t b6 hm
      rcases Bool.eq_false_or_eq_true (decide ((imin a1.X a2.X) ≤ a3.X)) with b7 | b7
      · replace hm := bif_t b7 hm
        rcases Bool.eq_false_or_eq_true (decide (a3.X ≤ (imax a1.X a2.X))) with b8 | b8
        · replace hm := bif_t b8 hm
          rcases Bool.eq_false_or_eq_true (decide ((imin a1.Y a2.Y) ≤ a3.Y)) with b9 | b9
          · replace hm := bif_t b9 hm
            refine R_rn Tryd.f42 6 1 [(3, dex (cen [] [] 3 0 (poly_cross_x v4) (poly_cross_o v4) [7, 8, 9] [])), (5, dfx true), (15, dfx true), (25, dfx true), (35, dfx true)] [] 3 ⟨[(6, vb (decide (a3.Y ≤ (imax a1.Y a2.Y))))], []⟩ (o1 (And.intro (callS (K := (kx E 52 0)) ⟨[(7, va [ci a1.X, ci a1.Y]), (8, va [ci a2.X, ci a2.Y]), (9, va [ci a3.X, ci a3.Y])], []⟩ (opAt (rg Tryd.f42 6) 3) [] [] 3 o0 rfl (poly_cross_ok a1 a2 a3 v4 h5) (.inl rfl) (by kernel_rfl)) (And.intro b6 (And.intro b7 (And.intro b8 b9))))) (by kernel_rfl) (by kernel_rfl) ?_
            exact J_mk (decide (a3.Y ≤ (imax a1.Y a2.Y))) hm (by kernel_rfl) (by kernel_rfl)
          · replace hm := bif_f b9 hm
            refine R_rn Tryd.f42 6 1 [(3, dex (cen [] [] 3 0 (poly_cross_x v4) (poly_cross_o v4) [7, 8, 9] [])), (5, dfx true), (15, dfx true), (25, dfx true), (35, dfx false)] [] 3 ⟨[(6, vb false)], []⟩ (o1 (And.intro (callS (K := (kx E 52 0)) ⟨[(7, va [ci a1.X, ci a1.Y]), (8, va [ci a2.X, ci a2.Y]), (9, va [ci a3.X, ci a3.Y])], []⟩ (opAt (rg Tryd.f42 6) 3) [] [] 3 o0 rfl (poly_cross_ok a1 a2 a3 v4 h5) (.inl rfl) (by kernel_rfl)) (And.intro b6 (And.intro b7 (And.intro b8 b9))))) (by kernel_rfl) (by kernel_rfl) ?_
            exact J_mk (false) hm (by kernel_rfl) (by kernel_rfl)
        · replace hm := bif_f b8 hm
          refine R_rn Tryd.f42 6 1 [(3, dex (cen [] [] 3 0 (poly_cross_x v4) (poly_cross_o v4) [7, 8, 9] [])), (5, dfx true), (15, dfx true), (25, dfx false)] [] 3 ⟨[(6, vb false)], []⟩ (o1 (And.intro (callS (K := (kx E 52 0)) ⟨[(7, va [ci a1.X, ci a1.Y]), (8, va [ci a2.X, ci a2.Y]), (9, va [ci a3.X, ci a3.Y])], []⟩ (opAt (rg Tryd.f42 6) 3) [] [] 3 o0 rfl (poly_cross_ok a1 a2 a3 v4 h5) (.inl rfl) (by kernel_rfl)) (And.intro b6 (And.intro b7 b8)))) (by kernel_rfl) (by kernel_rfl) ?_
          exact J_mk (false) hm (by kernel_rfl) (by kernel_rfl)
      · replace hm := bif_f b7 hm
        refine R_rn Tryd.f42 6 1 [(3, dex (cen [] [] 3 0 (poly_cross_x v4) (poly_cross_o v4) [7, 8, 9] [])), (5, dfx true), (15, dfx false)] [] 3 ⟨[(6, vb false)], []⟩ (o1 (And.intro (callS (K := (kx E 52 0)) ⟨[(7, va [ci a1.X, ci a1.Y]), (8, va [ci a2.X, ci a2.Y]), (9, va [ci a3.X, ci a3.Y])], []⟩ (opAt (rg Tryd.f42 6) 3) [] [] 3 o0 rfl (poly_cross_ok a1 a2 a3 v4 h5) (.inl rfl) (by kernel_rfl)) (And.intro b6 b7))) (by kernel_rfl) (by kernel_rfl) ?_
        exact J_mk (false) hm (by kernel_rfl) (by kernel_rfl)
    · replace hm := bif_f b6 hm
      refine R_rn Tryd.f42 6 1 [(3, dex (cen [] [] 3 0 (poly_cross_x v4) (poly_cross_o v4) [7, 8, 9] [])), (5, dfx false)] [] 3 ⟨[(6, vb false)], []⟩ (o1 (And.intro (callS (K := (kx E 52 0)) ⟨[(7, va [ci a1.X, ci a1.Y]), (8, va [ci a2.X, ci a2.Y]), (9, va [ci a3.X, ci a3.Y])], []⟩ (opAt (rg Tryd.f42 6) 3) [] [] 3 o0 rfl (poly_cross_ok a1 a2 a3 v4 h5) (.inl rfl) (by kernel_rfl)) b6)) (by kernel_rfl) (by kernel_rfl) ?_
      exact J_mk (false) hm (by kernel_rfl) (by kernel_rfl)

end Saw
end Go.SL

namespace Go.SL
namespace Saw
open Go.Proofs
set_option maxHeartbeats 4000000

def poly_Has_x (r : Bool) : V := vb r

def poly_Has_o (r : Bool) : List (Nat × (Nat × O)) := []

theorem poly_Has_f (r : Bool) : Frozen (poly_Has_o r) := by
  intro i k o h
  unfold poly_Has_o at h
  cases h

def poly_Has_k5_S (a1 : List Point) (a2 : Point) (x14 : Int) (x31 : Bool) : St :=
  ⟨[(0, vc (tl e_Point default a1)), (3, vp 0 0), (5, vb x31), (24, vc (tl e_Point default a1)), (25, vi ((a1.length : Nat) : Int)), (26, vi x14)], [(0, bx 38 [ci a2.X, ci a2.Y])]⟩

def poly_Has_k4_S (a1 : List Point) (a2 : Point) (x13 : Bool) (x14 : Int) (x29 : Bool) : St :=
  ⟨[(0, vc (tl e_Point default a1)), (3, vp 0 0), (5, vb x13), (24, vc (tl e_Point default a1)), (25, vi ((a1.length : Nat) : Int)), (26, vi x14), (68, vb x29)], [(0, bx 38 [ci a2.X, ci a2.Y])]⟩

def poly_Has_k3_S (a1 : List Point) (a2 : Point) (x13 : Bool) (x14 : Int) (x23 : Point) (x24 : Point) : St :=
  ⟨[(0, vc (tl e_Point default a1)), (3, vp 0 0), (5, vb x13), (7, vp 1 0), (8, vp 2 0), (24, vc (tl e_Point default a1)), (25, vi ((a1.length : Nat) : Int)), (26, vi x14)], [(0, bx 38 [ci a2.X, ci a2.Y]), (1, bx 38 [ci x24.X, ci x24.Y]), (2, bx 38 [ci x23.X, ci x23.Y])]⟩

def poly_Has_L2_S (a1 : List Point) (a2 : Point) (x13 : Bool) (x14 : Int) : St :=
  ⟨[(0, vc (tl e_Point default a1)), (3, vp 0 0), (5, vb x13), (24, vc (tl e_Point default a1)), (25, vi ((a1.length : Nat) : Int)), (26, vi x14)], [(0, bx 38 [ci a2.X, ci a2.Y])]⟩

def poly_Has_L2_T (x32 : Bool) : St :=
  ⟨[(5, vb x32)], []⟩

def poly_Has_k1_S (a1 : List Point) (a2 : Point) (x11 : Bool) : St :=
  ⟨[(0, vc (tl e_Point default a1)), (3, vp 0 0), (23, vb x11)], [(0, bx 38 [ci a2.X, ci a2.Y])]⟩

set_option maxRecDepth 100000 in
theorem poly_Has_L2_ok (E : Env 0) (a1 : List Point) (a2 : Point) : ∀ (n : Nat) (x13 : Bool) (x14 : Int) (res : Bool ⊕ Bool), poly_Has_L2 a1 a2 n x13 x14 = some res → HL (kx E 73 0) (nd Tryd.f25 244) (loopQ 0 (fun o => poly_Has_L2_T o) (fun v st => RetQ Tryd.prog Tryd.f25 (poly_Has_x v) (poly_Has_o v) .ret st) res) n (poly_Has_L2_S a1 a2 x13 x14) := by
  intro n
  induction n with
  | zero =>
    intro x13 x14 res hm
    cases hm
  | succ n ih =>
    intro x13 x14 res hm
    refine HL_succ ?_
    refine R_sq Tryd.f25 488 489 (by kernel_rfl) ?_
    refine R_rn Tryd.f25 488 5 [] [] 1 ⟨[(0, vc (tl e_Point default a1)), (3, vp 0 0), (5, vb x13), (24, vc (tl e_Point default a1)), (25, vi ((a1.length : Nat) : Int)), (26, vi x14), (27, vb (decide (x14 < ((a1.length : Nat) : Int))))], [(0, bx 38 [ci a2.X, ci a2.Y])]⟩ o0 (by kernel_rfl) (by kernel_rfl) ?_
    refine R_sq Tryd.f25 978 979 (by kernel_rfl) ?_
    refine R_cn Tryd.f25 (.tmp 27) 1956 1957 (by kernel_rfl) (decide (x14 < ((a1.length : Nat) : Int))) (by kernel_rfl) (fun b15 => ?_) (fun b15 => ?_)
    · replace hm := bif_t b15 hm
      refine R_skip (by kernel_rfl) ?_
      refine R_join (ι := Bool) (nd Tryd.f25 1958) (nd Tryd.f25 1959) (by kernel_rfl) (fun p => poly_Has_k5_S a1 a2 x14 p) (fun p => poly_Has_k5 x14 (poly_Has_L2 a1 a2 n) p = some res) ?_ ?_
      · rintro x31 hm
        show H _ (poly_Has_k5_S a1 a2 x14 x31) (nd Tryd.f25 1959) _
        refine R_rn Tryd.f25 1959 14 [] [] 3 ⟨[(0, vc (tl e_Point default a1)), (3, vp 0 0), (5, vb x31), (24, vc (tl e_Point default a1)), (25, vi ((a1.length : Nat) : Int)), (26, vi (w64 (x14 + 1)))], [(0, bx 38 [ci a2.X, ci a2.Y])]⟩ o0 (by kernel_rfl) (by kernel_rfl) ?_
        exact HL_enter (poly_Has_L2_S a1 a2 x31 (w64 (x14 + 1))) (by kernel_rfl) (by kernel_rfl) (ih x31 (w64 (x14 + 1)) _ hm)
      · refine R_bk Tryd.f25 1 3916 (by kernel_rfl) ?_
        refine R_sq Tryd.f25 7832 7833 (by kernel_rfl) ?_
        obtain ⟨g16, hm⟩ := bif_n hm
        refine R_rn Tryd.f25 7832 6 [] [] 1 ⟨[(0, vc (tl e_Point default a1)), (3, vp 0 0), (5, vb x13), (6, vi x14), (7, vp 1 0), (24, vc (tl e_Point default a1)), (25, vi ((a1.length : Nat) : Int)), (26, vi x14)], [(0, bx 38 [ci a2.X, ci a2.Y]), (1, bx 38 [ci ((a1.getD x14.toNat default).X), ci ((a1.getD x14.toNat default).Y)])]⟩ (o1 (inb_of g16)) (by kernel_rfl) (by kernel_rfl) ?_
        refine R_sq Tryd.f25 15666 15667 (by kernel_rfl) ?_
        obtain ⟨g17, hm⟩ := bif_n hm
        obtain ⟨g18, hm⟩ := bif_n hm
        refine R_rn Tryd.f25 15666 7 [] [] 2 ⟨[(0, vc (tl e_Point default a1)), (3, vp 0 0), (5, vb x13), (7, vp 1 0), (8, vp 2 0), (24, vc (tl e_Point default a1)), (25, vi ((a1.length : Nat) : Int)), (26, vi x14)], [(0, bx 38 [ci a2.X, ci a2.Y]), (1, bx 38 [ci ((a1.getD x14.toNat default).X), ci ((a1.getD x14.toNat default).Y)]), (2, bx 38 [ci ((a1.getD (Int.tmod (w64 (x14 + 1)) ((a1.length : Nat) : Int)).toNat default).X), ci ((a1.getD (Int.tmod (w64 (x14 + 1)) ((a1.length : Nat) : Int)).toNat default).Y)])]⟩ (o1 (And.intro (nz_of g17) (inb_of g18))) (by kernel_rfl) (by kernel_rfl) ?_
        refine R_sq Tryd.f25 31334 31335 (by kernel_rfl) ?_
        refine R_sq Tryd.f25 62668 62669 (by kernel_rfl) ?_
        obtain ⟨v19, h20, hm⟩ := bind_s hm
        refine R_rn Tryd.f25 62668 8 [(3, dex (cen [] [] 3 0 (poly_onEdge_x v19) (poly_onEdge_o v19) [39, 40, 41] []))] [] 3 ⟨[(0, vc (tl e_Point default a1)), (3, vp 0 0), (5, vb x13), (7, vp 1 0), (8, vp 2 0), (24, vc (tl e_Point default a1)), (25, vi ((a1.length : Nat) : Int)), (26, vi x14), (42, vb v19)], [(0, bx 38 [ci a2.X, ci a2.Y]), (1, bx 38 [ci ((a1.getD x14.toNat default).X), ci ((a1.getD x14.toNat default).Y)]), (2, bx 38 [ci ((a1.getD (Int.tmod (w64 (x14 + 1)) ((a1.length : Nat) : Int)).toNat default).X), ci ((a1.getD (Int.tmod (w64 (x14 + 1)) ((a1.length : Nat) : Int)).toNat default).Y)])]⟩ (o1 (callS (K := (kx E 73 0)) ⟨[(39, va [ci ((a1.getD x14.toNat default).X), ci ((a1.getD x14.toNat default).Y)]), (40, va [ci ((a1.getD (Int.tmod (w64 (x14 + 1)) ((a1.length : Nat) : Int)).toNat default).X), ci ((a1.getD (Int.tmod (w64 (x14 + 1)) ((a1.length : Nat) : Int)).toNat default).Y)]), (41, va [ci a2.X, ci a2.Y])], []⟩ (opAt (rg Tryd.f25 62668) 3) [] [] 3 o0 rfl (poly_onEdge_ok (a1.getD x14.toNat default) (a1.getD (Int.tmod (w64 (x14 + 1)) ((a1.length : Nat) : Int)).toNat default) a2 v19 h20) (.inl rfl) (by kernel_rfl))) (by kernel_rfl) (by kernel_rfl) ?_
        refine R_cn Tryd.f25 (.tmp 42) 125338 125339 (by kernel_rfl) v19 (by kernel_rfl) (fun b21 => ?_) (fun b21 => ?_)
        · replace hm := bif_t b21 hm
          refine R_sq Tryd.f25 250676 250677 (by kernel_rfl) ?_
          refine R_rn Tryd.f25 250676 9 [] [] 3 ⟨[(4, vb true)], []⟩ o0 (by kernel_rfl) (by kernel_rfl) ?_
          obtain rfl := Option.some.inj hm
          refine R_ret (by kernel_rfl) ?_
          refine L1_ret true ?_
          exact ret_mk (by kernel_rfl) (by kernel_rfl)
        · replace hm := bif_f b21 hm
          refine R_skip (by kernel_rfl) ?_
          refine R_join (ι := Point × Point) (nd Tryd.f25 62670) (nd Tryd.f25 62671) (by kernel_rfl) (fun p => poly_Has_k3_S a1 a2 x13 x14 p.1 p.2) (fun p => poly_Has_k3 a2 x13 x14 (poly_Has_L2 a1 a2 n) p.1 p.2 = some res) ?_ ?_
          · rintro ⟨x23, x24⟩ hm
            show H _ (poly_Has_k3_S a1 a2 x13 x14 x23 x24) (nd Tryd.f25 62671) _
            refine R_join (ι := Bool) (nd Tryd.f25 125342) (nd Tryd.f25 125343) (by kernel_rfl) (fun p => poly_Has_k4_S a1 a2 x13 x14 p) (fun p => poly_Has_k4 x13 x14 (poly_Has_L2 a1 a2 n) p = some res) ?_ ?_
            · rintro x29 hm
              show H _ (poly_Has_k4_S a1 a2 x13 x14 x29) (nd Tryd.f25 125343) _
              refine R_cn Tryd.f25 (.tmp 68) 250686 250687 (by kernel_rfl) x29 (by kernel_rfl) (fun b30 => ?_) (fun b30 => ?_)
              · replace hm := bif_t b30 hm
                refine R_rn Tryd.f25 250686 13 [] [] 3 ⟨[(0, vc (tl e_Point default a1)), (3, vp 0 0), (5, vb (!x13)), (24, vc (tl e_Point default a1)), (25, vi ((a1.length : Nat) : Int)), (26, vi x14)], [(0, bx 38 [ci a2.X, ci a2.Y])]⟩ o0 (by kernel_rfl) (by kernel_rfl) ?_
                exact J_mk (!x13) hm (by kernel_rfl) (by kernel_rfl)
              · replace hm := bif_f b30 hm
                refine R_skip (by kernel_rfl) ?_
                exact J_mk (x13) hm (by kernel_rfl) (by kernel_rfl)
            · rcases Bool.eq_false_or_eq_true (decide (x24.Y ≤ a2.Y)) with b25 | b25
              · replace hm := bif_t b25 hm
                rcases Bool.eq_false_or_eq_true (decide (a2.Y < x23.Y)) with b26 | b26
                · replace hm := bif_t b26 hm
                  obtain ⟨v27, h28, hm⟩ := bind_s hm
                  refine R_rn Tryd.f25 125342 12 [(5, dfx true), (12, dfx true), (16, dex (cen [] [] 3 0 (poly_cross_x v27) (poly_cross_o v27) [62, 63, 64, 65] []))] [] 3 ⟨[(0, vc (tl e_Point default a1)), (3, vp 0 0), (5, vb x13), (24, vc (tl e_Point default a1)), (25, vi ((a1.length : Nat) : Int)), (26, vi x14), (56, vp 0 1), (57, vi a2.Y), (58, vp 2 1), (59, vi x23.Y), (60, vb (decide (a2.Y < x23.Y))), (63, va [ci x24.X, ci x24.Y]), (64, va [ci x23.X, ci x23.Y]), (65, va [ci a2.X, ci a2.Y]), (66, vi v27), (67, vb (decide (v27 > 0))), (68, vb (decide (v27 > 0)))], [(0, bx 38 [ci a2.X, ci a2.Y]), (2, bx 38 [ci x23.X, ci x23.Y])]⟩ (o1 (And.intro b25 (And.intro b26 (callS (K := (kx E 73 0)) ⟨[(62, vb true), (63, va [ci x24.X, ci x24.Y]), (64, va [ci x23.X, ci x23.Y]), (65, va [ci a2.X, ci a2.Y])], []⟩ (opAt (rg Tryd.f25 125342) 16) [] [] 3 o0 rfl (poly_cross_ok x24 x23 a2 v27 h28) (.inl rfl) (by kernel_rfl))))) (by kernel_rfl) (by kernel_rfl) ?_
                  exact J_mk (decide (v27 > 0)) hm (by kernel_rfl) (by kernel_rfl)
                · replace hm := bif_f b26 hm
                  refine R_rn Tryd.f25 125342 12 [(5, dfx true), (12, dfx false)] [] 3 ⟨[(0, vc (tl e_Point default a1)), (3, vp 0 0), (5, vb x13), (24, vc (tl e_Point default a1)), (25, vi ((a1.length : Nat) : Int)), (26, vi x14), (56, vp 0 1), (57, vi a2.Y), (58, vp 2 1), (59, vi x23.Y), (60, vb (decide (a2.Y < x23.Y))), (68, vb false)], [(0, bx 38 [ci a2.X, ci a2.Y]), (2, bx 38 [ci x23.X, ci x23.Y])]⟩ (o1 (And.intro b25 b26)) (by kernel_rfl) (by kernel_rfl) ?_
                  exact J_mk (false) hm (by kernel_rfl) (by kernel_rfl)
              · replace hm := bif_f b25 hm
                refine R_rn Tryd.f25 125342 12 [(5, dfx false)] [] 3 ⟨[(0, vc (tl e_Point default a1)), (3, vp 0 0), (5, vb x13), (24, vc (tl e_Point default a1)), (25, vi ((a1.length : Nat) : Int)), (26, vi x14), (68, vb false)], [(0, bx 38 [ci a2.X, ci a2.Y])]⟩ (o1 b25) (by kernel_rfl) (by kernel_rfl) ?_
                exact J_mk (false) hm (by kernel_rfl) (by kernel_rfl)
          · refine R_sq Tryd.f25 125340 125341 (by kernel_rfl) ?_
            refine R_rn Tryd.f25 125340 10 [] [] 3 ⟨[(0, vc (tl e_Point default a1)), (3, vp 0 0), (5, vb x13), (7, vp 1 0), (8, vp 2 0), (24, vc (tl e_Point default a1)), (25, vi ((a1.length : Nat) : Int)), (26, vi x14), (47, vb (decide (((a1.getD x14.toNat default).Y) > ((a1.getD (Int.tmod (w64 (x14 + 1)) ((a1.length : Nat) : Int)).toNat default).Y))))], [(0, bx 38 [ci a2.X, ci a2.Y]), (1, bx 38 [ci ((a1.getD x14.toNat default).X), ci ((a1.getD x14.toNat default).Y)]), (2, bx 38 [ci ((a1.getD (Int.tmod (w64 (x14 + 1)) ((a1.length : Nat) : Int)).toNat default).X), ci ((a1.getD (Int.tmod (w64 (x14 + 1)) ((a1.length : Nat) : Int)).toNat default).Y)])]⟩ o0 (by kernel_rfl) (by kernel_rfl) ?_
            refine R_cn Tryd.f25 (.tmp 47) 250682 250683 (by kernel_rfl) (decide (((a1.getD x14.toNat default).Y) > ((a1.getD (Int.tmod (w64 (x14 + 1)) ((a1.length : Nat) : Int)).toNat default).Y))) (by kernel_rfl) (fun b22 => ?_) (fun b22 => ?_)
            · replace hm := bif_t b22 hm
              refine R_rn Tryd.f25 250682 11 [] [] 3 ⟨[(0, vc (tl e_Point default a1)), (3, vp 0 0), (5, vb x13), (7, vp 1 0), (8, vp 2 0), (24, vc (tl e_Point default a1)), (25, vi ((a1.length : Nat) : Int)), (26, vi x14)], [(0, bx 38 [ci a2.X, ci a2.Y]), (1, bx 38 [ci ((a1.getD (Int.tmod (w64 (x14 + 1)) ((a1.length : Nat) : Int)).toNat default).X), ci ((a1.getD (Int.tmod (w64 (x14 + 1)) ((a1.length : Nat) : Int)).toNat default).Y)]), (2, bx 38 [ci ((a1.getD x14.toNat default).X), ci ((a1.getD x14.toNat default).Y)])]⟩ o0 (by kernel_rfl) (by kernel_rfl) ?_
              exact J_mk ((a1.getD x14.toNat default), (a1.getD (Int.tmod (w64 (x14 + 1)) ((a1.length : Nat) : Int)).toNat default)) hm (by kernel_rfl) (by kernel_rfl)
            · replace hm := bif_f b22 hm
              refine R_skip (by kernel_rfl) ?_
              exact J_mk ((a1.getD (Int.tmod (w64 (x14 + 1)) ((a1.length : Nat) : Int)).toNat default), (a1.getD x14.toNat default)) hm (by kernel_rfl) (by kernel_rfl)
    · replace hm := bif_f b15 hm
      refine R_exit 0 (by kernel_rfl) ?_
      obtain rfl := Option.some.inj hm
      exact L1_mk x13 (by kernel_rfl) (by kernel_rfl)

set_option maxRecDepth 100000 in
theorem poly_Has_ok (a1 : List Point) (a2 : Point) (r : Bool) (hm : poly_Has a1 a2 = some r) : CtX Tryd.prog globs 25 0 0 [.one (tl e_Point default a1), .agg [ci a2.X, ci a2.Y]] [] (poly_Has_x r) (poly_Has_o r) := by
  unfold poly_Has at hm
  refine CtX_of_E (fn := Tryd.f25) (c := nd Tryd.f25 1) (nt := 73) (by kernel_rfl) (by kernel_rfl) (by kernel_rfl) (by kernel_rfl) fun E => ?_
  refine R_sq Tryd.f25 2 3 (by kernel_rfl) ?_
  refine R_rn Tryd.f25 2 0 [] [] 0 ⟨[(0, vc (tl e_Point default a1)), (3, vp 0 0)], [(0, bx 38 [ci a2.X, ci a2.Y])]⟩ o0 (by kernel_rfl) (by kernel_rfl) ?_
  refine R_sq Tryd.f25 6 7 (by kernel_rfl) ?_
  refine R_join (ι := Bool) (nd Tryd.f25 12) (nd Tryd.f25 13) (by kernel_rfl) (fun p => poly_Has_k1_S a1 a2 p) (fun p => poly_Has_k1 a1 a2 p = some r) ?_ ?_
  · rintro x11 hm
    show H _ (poly_Has_k1_S a1 a2 x11) (nd Tryd.f25 13) _
    refine R_cn Tryd.f25 (.tmp 23) 26 27 (by kernel_rfl) x11 (by kernel_rfl) (fun b12 => ?_) (fun b12 => ?_)
    · replace hm := bif_t b12 hm
      refine R_sq Tryd.f25 52 53 (by kernel_rfl) ?_
      refine R_rn Tryd.f25 52 2 [] [] 1 ⟨[(4, vb false)], []⟩ o0 (by kernel_rfl) (by kernel_rfl) ?_
      obtain rfl := Option.some.inj hm
      refine R_ret (by kernel_rfl) ?_
      exact ret_mk (by kernel_rfl) (by kernel_rfl)
    · replace hm := bif_f b12 hm
      refine R_skip (by kernel_rfl) ?_
      refine R_sq Tryd.f25 14 15 (by kernel_rfl) ?_
      refine R_rn Tryd.f25 14 3 [] [] 1 ⟨[(0, vc (tl e_Point default a1)), (3, vp 0 0), (5, vb false)], [(0, bx 38 [ci a2.X, ci a2.Y])]⟩ o0 (by kernel_rfl) (by kernel_rfl) ?_
      refine R_sq Tryd.f25 30 31 (by kernel_rfl) ?_
      refine R_sq Tryd.f25 60 61 (by kernel_rfl) ?_
      refine R_rn Tryd.f25 60 4 [] [] 1 ⟨[(0, vc (tl e_Point default a1)), (3, vp 0 0), (5, vb false), (24, vc (tl e_Point default a1)), (25, vi ((a1.length : Nat) : Int)), (26, vi 0)], [(0, bx 38 [ci a2.X, ci a2.Y])]⟩ o0 (by kernel_rfl) (by kernel_rfl) ?_
      obtain ⟨u35, h34, hm⟩ := bind_s hm
      refine R_loop1 (nd Tryd.f25 244) 0 (by kernel_rfl) FUEL (fun o => poly_Has_L2_T o) (fun v st => RetQ Tryd.prog Tryd.f25 (poly_Has_x v) (poly_Has_o v) .ret st) u35 (HL_enter (poly_Has_L2_S a1 a2 false 0) (by kernel_rfl) (by kernel_rfl) (poly_Has_L2_ok E a1 a2 FUEL false 0 u35 h34)) ?_ ?_
      · rintro v36 rfl st hr
        obtain rfl := Option.some.inj hm
        exact hr
      · rintro o33 rfl
        replace hm : _ = some r := hm
        refine R_sq Tryd.f25 62 63 (by kernel_rfl) ?_
        refine R_rn Tryd.f25 62 15 [] [] 1 ⟨[(4, vb o33)], []⟩ o0 (by kernel_rfl) (by kernel_rfl) ?_
        obtain rfl := Option.some.inj hm
        refine R_ret (by kernel_rfl) ?_
        exact ret_mk (by kernel_rfl) (by kernel_rfl)
  · obtain ⟨v3, h4, hm⟩ := bind_s hm
    rcases Bool.eq_false_or_eq_true (v3 != 0) with b5 | b5
    · replace hm := bif_t b5 hm
      refine R_rn Tryd.f25 12 1 [(1, dex (cen [] [] 1 0 (poly_Check_x v3) (poly_Check_o v3) [9] [])), (3, dfx true)] [] 1 ⟨[(0, vc (tl e_Point default a1)), (3, vp 0 0), (23, vb true)], [(0, bx 38 [ci a2.X, ci a2.Y])]⟩ (o1 (And.intro (callS (K := (kx E 73 0)) ⟨[(9, vc (tl e_Point default a1))], []⟩ (opAt (rg Tryd.f25 12) 1) [] [] 1 o0 rfl (poly_Check_ok a1 v3 h4) (.inl rfl) (by kernel_rfl)) b5)) (by kernel_rfl) (by kernel_rfl) ?_
      exact J_mk (true) hm (by kernel_rfl) (by kernel_rfl)
    · replace hm := bif_f b5 hm
      obtain ⟨v6, h7, hm⟩ := bind_s hm
      rcases Bool.eq_false_or_eq_true (!v6) with b8 | b8
      · replace hm := bif_t b8 hm
        refine R_rn Tryd.f25 12 1 [(1, dex (cen [] [] 1 0 (poly_Check_x v3) (poly_Check_o v3) [9] [])), (3, dfx false), (6, dex (cen [] [] 1 0 (poly_within_x v6) (poly_within_o v6) [12, 14] [])), (9, dfx true)] [] 1 ⟨[(0, vc (tl e_Point default a1)), (3, vp 0 0), (23, vb true)], [(0, bx 38 [ci a2.X, ci a2.Y])]⟩ (o1 (And.intro (callS (K := (kx E 73 0)) ⟨[(9, vc (tl e_Point default a1))], []⟩ (opAt (rg Tryd.f25 12) 1) [] [] 1 o0 rfl (poly_Check_ok a1 v3 h4) (.inl rfl) (by kernel_rfl)) (And.intro b5 (And.intro (callS (K := (kx E 73 0)) ⟨[(12, vb false), (14, vi a2.X)], []⟩ (opAt (rg Tryd.f25 12) 6) [] [] 1 o0 rfl (poly_within_ok a2.X v6 h7) (.inl rfl) (by kernel_rfl)) b8)))) (by kernel_rfl) (by kernel_rfl) ?_
        exact J_mk (true) hm (by kernel_rfl) (by kernel_rfl)
      · replace hm := bif_f b8 hm
        obtain ⟨v9, h10, hm⟩ := bind_s hm
        refine R_rn Tryd.f25 12 1 [(1, dex (cen [] [] 1 0 (poly_Check_x v3) (poly_Check_o v3) [9] [])), (3, dfx false), (6, dex (cen [] [] 1 0 (poly_within_x v6) (poly_within_o v6) [12, 14] [])), (9, dfx false), (12, dex (cen [] [] 1 0 (poly_within_x v9) (poly_within_o v9) [18, 20] []))] [] 1 ⟨[(0, vc (tl e_Point default a1)), (3, vp 0 0), (23, vb (!v9))], [(0, bx 38 [ci a2.X, ci a2.Y])]⟩ (o1 (And.intro (callS (K := (kx E 73 0)) ⟨[(9, vc (tl e_Point default a1))], []⟩ (opAt (rg Tryd.f25 12) 1) [] [] 1 o0 rfl (poly_Check_ok a1 v3 h4) (.inl rfl) (by kernel_rfl)) (And.intro b5 (And.intro (callS (K := (kx E 73 0)) ⟨[(12, vb false), (14, vi a2.X)], []⟩ (opAt (rg Tryd.f25 12) 6) [] [] 1 o0 rfl (poly_within_ok a2.X v6 h7) (.inl rfl) (by kernel_rfl)) (And.intro b8 (callS (K := (kx E 73 0)) ⟨[(18, vb false), (20, vi a2.Y)], []⟩ (opAt (rg Tryd.f25 12) 12) [] [] 1 o0 rfl (poly_within_ok a2.Y v9 h10) (.inl rfl) (by kernel_rfl))))))) (by kernel_rfl) (by kernel_rfl) ?_
        exact J_mk (!v9) hm (by kernel_rfl) (by kernel_rfl)

end Saw
end Go.SL

namespace Go.SL
namespace Saw
open Go.Proofs
set_option maxHeartbeats 4000000

def slices_Clone_SPoint_x (r : List Point) : V := vo 0 0 2 r.length

def slices_Clone_SPoint_o (r : List Point) : List (Nat × (Nat × O)) := [(0, ro 0 38 2 r.length (rf e_Point r))]

theorem slices_Clone_SPoint_f (r : List Point) : Frozen (slices_Clone_SPoint_o r) := by
  intro i k o h
  unfold slices_Clone_SPoint_o at h
  rw [look_cons] at h
  split at h
  · cases h; exact fun _ _ => rfl
  · cases h

set_option maxRecDepth 100000 in
theorem slices_Clone_SPoint_ok (a1 : List Point) (r : List Point) (hm : slices_Clone_SPoint a1 = some r) : CtX Tryd.prog globs 44 0 0 [.one (tl e_Point default a1)] [] (slices_Clone_SPoint_x r) (slices_Clone_SPoint_o r) := by
  unfold slices_Clone_SPoint at hm
  obtain ⟨g1, hm⟩ := bif_n hm
  obtain rfl := Option.some.inj hm
  refine CtX_of_E (fn := Tryd.f44) (c := nd Tryd.f44 1) (nt := 8) (by kernel_rfl) (by kernel_rfl) (by kernel_rfl) (by kernel_rfl) fun E => ?_
  refine R_sq Tryd.f44 2 3 (by kernel_rfl) ?_
  refine R_rn Tryd.f44 2 0 [] [] 0 ⟨[(0, vc (tl e_Point default a1))], []⟩ o0 (by kernel_rfl) (by kernel_rfl) ?_
  refine R_sq Tryd.f44 6 7 (by kernel_rfl) ?_
  refine R_sq Tryd.f44 12 13 (by kernel_rfl) ?_
  refine R_nil Tryd.f44 12 1 1 ⟨[(0, vc (tl e_Point default a1)), (3, vc (tl e_Point default a1))], []⟩ 22 22 38 4 (.tmp 3) a1.length (rf e_Point a1) (by kernel_rfl) (by kernel_rfl) (by kernel_rfl) (fun b hb => ?_)
  refine R_cn Tryd.f44 (.tmp 4) 26 27 (by kernel_rfl) b (by kernel_rfl) (fun b6 => ?_) (fun b6 => ?_)
  · obtain rfl : a1 = [] := List.eq_nil_of_length_eq_zero (hb b6)
    refine R_sq Tryd.f44 52 53 (by kernel_rfl) ?_
    refine R_rn Tryd.f44 52 2 [] [.own 2 0 38 2 (rf e_Point ([] : List Point))] 0 ⟨[(2, vo 0 0 2 0)], [(0, ro 0 38 2 0 (rf e_Point ([] : List Point)))]⟩ o0 (by kernel_rfl) (by kernel_rfl) ?_
    refine R_ret (by kernel_rfl) ?_
    exact ret_mk (by kernel_rfl) (by kernel_rfl)
  · refine R_skip (by kernel_rfl) ?_
    refine R_sq Tryd.f44 14 15 (by kernel_rfl) ?_
    refine R_rn Tryd.f44 14 3 [(0, drw 0 0 (rf e_Point ([] : List Point))), (2, drw 0 1 (rf e_Point ([] ++ a1)))] [.len 0 a1.length] 0 ⟨[(2, vo 0 1 2 a1.length)], [(0, ro 1 38 2 a1.length (rf e_Point ([] ++ a1)))]⟩ (o1 (And.intro (And.intro (litP e_Point default 2 (fun _ => rfl) ([] : List Point) 0 rfl) (apP e_Point default ([] : List Point) a1 0 a1.length 2 16 True trivial rfl rfl (fun _ => rfl) (by have := room_of g1; rw [Nat.zero_add]; exact this))) (And.intro (And.intro (Nat.zero_add a1.length) (Nat.zero_add a1.length)) (Nat.zero_add a1.length)))) (by kernel_rfl) (by kernel_rfl) ?_
    refine R_ret (by kernel_rfl) ?_
    exact ret_mk (by kernel_rfl) (by kernel_rfl)

end Saw
end Go.SL

namespace Go.SL
namespace Saw
open Go.Proofs
set_option maxHeartbeats 4000000

def poly_Hull_1_x (r : Int) : V := vi r

def poly_Hull_1_o (r : Int) : List (Nat × (Nat × O)) := []

theorem poly_Hull_1_f (r : Int) : Frozen (poly_Hull_1_o r) := by
  intro i k o h
  unfold poly_Hull_1_o at h
  cases h

set_option maxRecDepth 100000 in
theorem poly_Hull_1_ok (a1 : Point) (a2 : Point) (r : Int) (hm : poly_Hull_1 a1 a2 = some r) : CtX Tryd.prog globs 46 0 0 [.agg [ci a1.X, ci a1.Y], .agg [ci a2.X, ci a2.Y]] [] (poly_Hull_1_x r) (poly_Hull_1_o r) := by
  unfold poly_Hull_1 at hm
  refine CtX_of_E (fn := Tryd.f46) (c := nd Tryd.f46 1) (nt := 17) (by kernel_rfl) (by kernel_rfl) (by kernel_rfl) (by kernel_rfl) fun E => ?_
  refine R_sq Tryd.f46 2 3 (by kernel_rfl) ?_
  refine R_rn Tryd.f46 2 0 [] [] 0 ⟨[(2, vp 0 0), (3, vp 1 0)], [(0, bx 38 [ci a1.X, ci a1.Y]), (1, bx 38 [ci a2.X, ci a2.Y])]⟩ o0 (by kernel_rfl) (by kernel_rfl) ?_
  refine R_sq Tryd.f46 6 7 (by kernel_rfl) ?_
  obtain ⟨v3, h4, hm⟩ := bind_s hm
  obtain ⟨v5, h6, hm⟩ := bind_s hm
  obtain ⟨v7, h8, hm⟩ := bind_s hm
  refine R_dr Tryd.f46 6 1 [] [(4, dex (cen [] [] 2 0 (cmp_Compare_i64_x v3) (cmp_Compare_i64_o v3) [6, 8] [])), (9, dex (cen [] [] 2 0 (cmp_Compare_i64_x v5) (cmp_Compare_i64_o v5) [11, 13] [])), (10, drw 2 0 (rf e_i64 ([v3, v5] : List Int))), (11, dex (cen [] [] 3 0 (cmp_Or_Si64_x v7) (cmp_Or_Si64_o v7) [15] [2]))] [] [0, 1, 0, 4, 15, 0, 32, 0, 128, 511, 1023, 2047, 4095] 2 ⟨[(4, vi v7)], []⟩ (o1 (And.intro (callS (K := (kx E 17 0)) ⟨[(6, vi a1.X), (8, vi a2.X)], []⟩ (opAt (rg Tryd.f46 6) 4) [] [] 2 o0 rfl (cmp_Compare_i64_ok a1.X a2.X v3 h4) (.inl rfl) (by kernel_rfl)) (And.intro (callS (K := (kx E 17 0)) ⟨[(11, vi a1.Y), (13, vi a2.Y)], []⟩ (opAt (rg Tryd.f46 6) 9) [] [] 2 o0 rfl (cmp_Compare_i64_ok a1.Y a2.Y v5 h6) (.inl rfl) (by kernel_rfl)) (And.intro (litP e_i64 default 1 (fun _ => rfl) ([v3, v5] : List Int) 2 rfl) (callS (K := (kx E 17 0)) (xs' := [.one (.lst 2 (rf e_i64 ([v3, v5] : List Int)))]) (b := false) ⟨[(15, vo 2 0 1 2)], [(2, ro 0 3 1 2 (rf e_i64 ([v3, v5] : List Int)))]⟩ (opAt (rg Tryd.f46 6) 11) [] [] 3 (o1 (Nat.le_refl 2)) (by simp only [tl, rf, show ([v3, v5] : List Int).length = 2 from rfl]) (cmp_Or_Si64_ok ([v3, v5] : List Int) v7 h8) (.inr ⟨(by kernel_rfl), cmp_Or_Si64_f v7⟩) (by kernel_rfl)))))) (by kernel_rfl) (by kernel_rfl) ?_
  obtain rfl := Option.some.inj hm
  refine R_ret (by kernel_rfl) ?_
  exact ret_mk (by kernel_rfl) (by kernel_rfl)

end Saw
end Go.SL

namespace Go.SL
namespace Saw
open Go.Proofs
set_option maxHeartbeats 4000000

def slices_SortFunc_SPoint_x (a1 : List Point) (r : List Point) : V := .undef

def slices_SortFunc_SPoint_o (a1 : List Point) (r : List Point) : List (Nat × (Nat × O)) := [(0, ro 0 38 2 r.length (rf e_Point r))]

theorem slices_SortFunc_SPoint_f (a1 : List Point) (r : List Point) : Frozen (slices_SortFunc_SPoint_o a1 r) := by
  intro i k o h
  unfold slices_SortFunc_SPoint_o at h
  rw [look_cons] at h
  split at h
  · cases h; exact fun _ _ => rfl
  · cases h

theorem lfB {α:Type} {o:Option α} {a b:α} (h:o=some a) (e:a=b:=by kernel_rfl):o=some b:=h.trans (congrArg some e)
def slices_SortFunc_SPoint_lay_ren :Go.Shelf.Ren:=⟨fun |6=>45|15=>58|14=>57|28=>69|29=>70|20=>61|21=>62|22=>63|23=>64|24=>65|25=>66|26=>67|27=>68|46=>71|47=>72|48=>73|49=>74|50=>75|57=>76|n=>n,fun |22=>22|24=>38|25=>59|3=>3|39=>66|0=>0|53=>77|55=>79|4=>4|46=>70|45=>69|50=>74|5=>5|9=>9|66=>80|70=>84|76=>86|77=>62|n=>n,fun n=>n⟩
theorem slices_SortFunc_SPoint_lay : Go.Proofs.SlLaysF0.n6 Tryd.prog slices_SortFunc_SPoint_lay_ren :={mixed:=by kernel_rfl,f6:=⟨Tryd.f45.name,by decide,lfB Tryd.func45⟩,f14:=⟨Tryd.f57.name,by decide,lfB Tryd.func57⟩,f15:=lfB Tryd.func58,f20:=⟨Tryd.f61.name,by decide,lfB Tryd.func61⟩,f21:=⟨Tryd.f62.name,by decide,lfB Tryd.func62⟩,f22:=⟨Tryd.f63.name,by decide,lfB Tryd.func63⟩,f23:=⟨Tryd.f64.name,by decide,lfB Tryd.func64⟩,f24:=⟨Tryd.f65.name,by decide,lfB Tryd.func65⟩,f25:=⟨Tryd.f66.name,by decide,lfB Tryd.func66⟩,f26:=⟨Tryd.f67.name,by decide,lfB Tryd.func67⟩,f27:=⟨Tryd.f68.name,by decide,lfB Tryd.func68⟩,f28:=lfB Tryd.func69,f29:=lfB Tryd.func70,f46:=⟨Tryd.f71.name,by decide,lfB Tryd.func71⟩,f47:=lfB Tryd.func72,f48:=lfB Tryd.func73,f49:=⟨Tryd.f74.name,by decide,lfB Tryd.func74⟩,f50:=⟨Tryd.f75.name,by decide,lfB Tryd.func75⟩,f57:=⟨Tryd.f76.name,by decide,lfB Tryd.func76⟩,t0:=Tryd.underlying0,a0:=Tryd.isAgg0,z0:=Tryd.sizeOf0,v0:=Tryd.zeroValue0,t3:=Tryd.underlying3,a3:=Tryd.isAgg3,z3:=Tryd.sizeOf3,v3:=Tryd.zeroValue3,t4:=Tryd.underlying4,a4:=Tryd.isAgg4,z4:=Tryd.sizeOf4,v4:=Tryd.zeroValue4,t5:=Tryd.underlying5,a5:=Tryd.isAgg5,z5:=Tryd.sizeOf5,v5:=Tryd.zeroValue5,t9:=Tryd.underlying9,a9:=Tryd.isAgg9,z9:=Tryd.sizeOf9,v9:=Tryd.zeroValue9,t22:=Tryd.underlying22,a22:=Tryd.isAgg22,z22:=Tryd.sizeOf22,v22:=Tryd.zeroValue22,t25:=Tryd.underlying59,a25:=Tryd.isAgg59,z25:=Tryd.sizeOf59,v25:=Tryd.zeroValue59,t39:=Tryd.underlying66,a39:=Tryd.isAgg66,z39:=Tryd.sizeOf66,v39:=Tryd.zeroValue66,t45:=Tryd.underlying69,a45:=Tryd.isAgg69,z45:=Tryd.sizeOf69,v45:=Tryd.zeroValue69,t46:=Tryd.underlying70,a46:=Tryd.isAgg70,z46:=Tryd.sizeOf70,v46:=Tryd.zeroValue70,t50:=Tryd.underlying74,a50:=Tryd.isAgg74,z50:=Tryd.sizeOf74,v50:=Tryd.zeroValue74,t53:=Tryd.underlying77,a53:=Tryd.isAgg77,z53:=Tryd.sizeOf77,v53:=Tryd.zeroValue77,t55:=Tryd.underlying79,a55:=Tryd.isAgg79,z55:=Tryd.sizeOf79,v55:=Tryd.zeroValue79,t66:=Tryd.underlying80,a66:=Tryd.isAgg80,z66:=Tryd.sizeOf80,v66:=Tryd.zeroValue80,t70:=Tryd.underlying84,a70:=Tryd.isAgg84,z70:=Tryd.sizeOf84,v70:=Tryd.zeroValue84,t76:=Tryd.underlying86,a76:=Tryd.isAgg86,z76:=Tryd.sizeOf86,v76:=Tryd.zeroValue86,t77:=Tryd.underlying62,a77:=Tryd.isAgg62,z77:=Tryd.sizeOf62,v77:=Tryd.zeroValue62}

def encV_Point (p : Point) : List Value := [.int .i64 p.X, .int .i64 p.Y]
theorem slices_SortFunc_SPoint_swo : Go.Sort.SWO (ltOf cmpPt) where
  irrefl x := by unfold ltOf cmpPt; simp
  trans x y z h1 h2 := by
    rw [ltPt] at *
    simp only [decide_eq_true_eq] at *
    omega
  ntrans x y z h1 h2 := by
    rw [ltPt] at *
    simp only [decide_eq_false_iff_not] at *
    omega
theorem slices_SortFunc_SPoint_anti (x y : Point) (h1 : ltOf cmpPt x y = false) (h2 : ltOf cmpPt y x = false) : x = y := by
  rw [ltPt] at *
  simp only [decide_eq_false_iff_not] at *
  cases x; cases y
  simp only [Point.mk.injEq] at *
  omega
theorem slices_SortFunc_SPoint_ok (a1 : List Point) (r : List Point) (hm : slices_SortFunc_SPoint a1 = some r) : CtX Tryd.prog globs 45 1 1 [.one (.own 0 0 2 a1.length), .one (.fn 46 [])] [(0, ro 0 38 2 a1.length (rf e_Point a1))] (slices_SortFunc_SPoint_x a1 r) (slices_SortFunc_SPoint_o a1 r) := by
  unfold slices_SortFunc_SPoint at hm
  obtain ⟨g1, hm⟩ := bif_n hm
  obtain rfl := Option.some.inj hm
  have hs := sortOk_of g1
  have eg : ∀ args w, (callFunc 46 args).run Tryd.prog w = .ok (.enter 46 args) w := enters_of Tryd.func46 (by kernel_rfl) rfl
  exact CtX_sort (gl := globs) slices_SortFunc_SPoint_lay 2 Tryd.isAgg38 Tryd.sizeOf38 encV_Point (fun _ => rfl) (fun x v hv => by simp [encV_Point] at hv; rcases hv with rfl | rfl <;> rfl) poly_Hull_1 cmpPt poly_Hull_1_eq slices_SortFunc_SPoint_swo slices_SortFunc_SPoint_anti 46 38 eg (fun x y => poly_Hull_1_ok x y _ (poly_Hull_1_eq x y)) a1 hs.1 hs.2


end Saw
end Go.SL
