import Derived.Test.YtjelipmghgcpeaaSBase
import Derived.Test.YtjelipmghgcpeaaSFa6
set_option linter.unusedVariables false
set_option linter.unusedSimpArgs false
namespace Go.SL
namespace Saw
open Go.Proofs
set_option maxHeartbeats 4000000

def ref09_Ranged_x (r : Bool) : V := vb r

def ref09_Ranged_o (r : Bool) : List (Nat × (Nat × O)) := []

theorem ref09_Ranged_f (r : Bool) : Frozen (ref09_Ranged_o r) := by
  intro i k o h
  unfold ref09_Ranged_o at h
  cases h

def ref09_Ranged_k2_S (a1 : List Point) (x2 : Int) (x8 : Bool) : St :=
  ⟨[(0, vc (tl e_Point default a1)), (3, vi x2), (39, vb x8)], []⟩

def ref09_Ranged_L1_S (a1 : List Point) (x2 : Int) : St :=
  ⟨[(0, vc (tl e_Point default a1)), (3, vi x2)], []⟩

def ref09_Ranged_L1_T : St :=
  ⟨[], []⟩

set_option maxRecDepth 100000 in
theorem ref09_Ranged_L1_ok (E : Env 0) (a1 : List Point) : ∀ (n : Nat) (x2 : Int) (res : Bool ⊕ Unit), ref09_Ranged_L1 a1 n x2 = some res → HL (kx E 40 0) (nd Try.f64 52) (loopQ 0 (fun o => ref09_Ranged_L1_T) (fun v st => RetQ Try.prog Try.f64 (ref09_Ranged_x v) (ref09_Ranged_o v) .ret st) res) n (ref09_Ranged_L1_S a1 x2) := by
  intro n
  induction n with
  | zero =>
    intro x2 res hm
    cases hm
  | succ n ih =>
    intro x2 res hm
    refine HL_succ ?_
    refine R_sq Try.f64 104 105 (by kernel_rfl) ?_
    refine R_sq Try.f64 208 209 (by kernel_rfl) ?_
    refine R_rn Try.f64 208 2 [] [] 0 ⟨[(0, vc (tl e_Point default a1)), (3, vi x2), (7, vb (decide (x2 < ((a1.length : Nat) : Int))))], []⟩ o0 (by kernel_rfl) (by kernel_rfl) ?_
    refine R_cn Try.f64 (.tmp 7) 418 419 (by kernel_rfl) (decide (x2 < ((a1.length : Nat) : Int))) (by kernel_rfl) (fun b3 => ?_) (fun b3 => ?_)
    · replace hm := bif_t b3 hm
      refine R_skip (by kernel_rfl) ?_
      refine R_sq Try.f64 210 211 (by kernel_rfl) ?_
      refine R_bk Try.f64 1 420 (by kernel_rfl) ?_
      refine R_join (ι := Bool) (nd Try.f64 840) (nd Try.f64 841) (by kernel_rfl) (fun p => ref09_Ranged_k2_S a1 x2 p) (fun p => ref09_Ranged_k2 x2 (ref09_Ranged_L1 a1 n) p = some res) ?_ ?_
      · rintro x8 hm
        show H _ (ref09_Ranged_k2_S a1 x2 x8) (nd Try.f64 841) _
        refine R_cn Try.f64 (.tmp 39) 1682 1683 (by kernel_rfl) x8 (by kernel_rfl) (fun b9 => ?_) (fun b9 => ?_)
        · replace hm := bif_t b9 hm
          refine R_sq Try.f64 3364 3365 (by kernel_rfl) ?_
          refine R_rn Try.f64 3364 5 [] [] 0 ⟨[(2, vb false)], []⟩ o0 (by kernel_rfl) (by kernel_rfl) ?_
          obtain rfl := Option.some.inj hm
          refine R_ret (by kernel_rfl) ?_
          refine L1_ret false ?_
          exact ret_mk (by kernel_rfl) (by kernel_rfl)
        · replace hm := bif_f b9 hm
          refine R_skip (by kernel_rfl) ?_
          refine R_rn Try.f64 211 3 [] [] 0 ⟨[(0, vc (tl e_Point default a1)), (3, vi (w64 (x2 + 1)))], []⟩ o0 (by kernel_rfl) (by kernel_rfl) ?_
          exact HL_enter (ref09_Ranged_L1_S a1 (w64 (x2 + 1))) (by kernel_rfl) (by kernel_rfl) (ih (w64 (x2 + 1)) _ hm)
      · obtain ⟨g4, hm⟩ := bif_n hm
        rcases Bool.eq_false_or_eq_true (decide (((a1.getD x2.toNat default).X) < (-600))) with b5 | b5
        · replace hm := bif_t b5 hm
          refine R_rn Try.f64 840 4 [(6, dfx true)] [] 0 ⟨[(0, vc (tl e_Point default a1)), (3, vi x2), (39, vb true)], []⟩ (o1 (And.intro (inb_of g4) b5)) (by kernel_rfl) (by kernel_rfl) ?_
          exact J_mk (true) hm (by kernel_rfl) (by kernel_rfl)
        · replace hm := bif_f b5 hm
          rcases Bool.eq_false_or_eq_true (decide (((a1.getD x2.toNat default).X) > 600)) with b6 | b6
          · replace hm := bif_t b6 hm
            refine R_rn Try.f64 840 4 [(6, dfx false), (14, dfx true)] [] 0 ⟨[(0, vc (tl e_Point default a1)), (3, vi x2), (17, vc (tl e_Point default a1)), (18, vi x2), (19, vc (.lptr (e_Point (a1.getD x2.toNat default)))), (20, vc (.lptr (e_Point (a1.getD x2.toNat default)))), (21, vi ((a1.getD x2.toNat default).X)), (22, vb (decide (((a1.getD x2.toNat default).X) > 600))), (39, vb true)], []⟩ (o1 (And.intro (inb_of g4) (And.intro b5 (And.intro (inb_of g4) b6)))) (by kernel_rfl) (by kernel_rfl) ?_
            exact J_mk (true) hm (by kernel_rfl) (by kernel_rfl)
          · replace hm := bif_f b6 hm
            rcases Bool.eq_false_or_eq_true (decide (((a1.getD x2.toNat default).Y) < (-600))) with b7 | b7
            · replace hm := bif_t b7 hm
              refine R_rn Try.f64 840 4 [(6, dfx false), (14, dfx false), (22, dfx true)] [] 0 ⟨[(0, vc (tl e_Point default a1)), (3, vi x2), (17, vc (tl e_Point default a1)), (18, vi x2), (19, vc (.lptr (e_Point (a1.getD x2.toNat default)))), (20, vc (.lptr (e_Point (a1.getD x2.toNat default)))), (21, vi ((a1.getD x2.toNat default).X)), (22, vb (decide (((a1.getD x2.toNat default).X) > 600))), (25, vc (tl e_Point default a1)), (26, vi x2), (27, vc (.lptr (e_Point (a1.getD x2.toNat default)))), (28, vc (.lptr ((e_Point (a1.getD x2.toNat default)).drop 1))), (29, vi ((a1.getD x2.toNat default).Y)), (30, vb (decide (((a1.getD x2.toNat default).Y) < (-600)))), (39, vb true)], []⟩ (o1 (And.intro (inb_of g4) (And.intro b5 (And.intro (inb_of g4) (And.intro b6 (And.intro (inb_of g4) b7)))))) (by kernel_rfl) (by kernel_rfl) ?_
              exact J_mk (true) hm (by kernel_rfl) (by kernel_rfl)
            · replace hm := bif_f b7 hm
              refine R_rn Try.f64 840 4 [(6, dfx false), (14, dfx false), (22, dfx false)] [] 0 ⟨[(0, vc (tl e_Point default a1)), (3, vi x2), (17, vc (tl e_Point default a1)), (18, vi x2), (19, vc (.lptr (e_Point (a1.getD x2.toNat default)))), (20, vc (.lptr (e_Point (a1.getD x2.toNat default)))), (21, vi ((a1.getD x2.toNat default).X)), (22, vb (decide (((a1.getD x2.toNat default).X) > 600))), (25, vc (tl e_Point default a1)), (26, vi x2), (27, vc (.lptr (e_Point (a1.getD x2.toNat default)))), (28, vc (.lptr ((e_Point (a1.getD x2.toNat default)).drop 1))), (29, vi ((a1.getD x2.toNat default).Y)), (30, vb (decide (((a1.getD x2.toNat default).Y) < (-600)))), (33, vc (tl e_Point default a1)), (34, vi x2), (35, vc (.lptr (e_Point (a1.getD x2.toNat default)))), (36, vc (.lptr ((e_Point (a1.getD x2.toNat default)).drop 1))), (37, vi ((a1.getD x2.toNat default).Y)), (38, vb (decide (((a1.getD x2.toNat default).Y) > 600))), (39, vb (decide (((a1.getD x2.toNat default).Y) > 600)))], []⟩ (o1 (And.intro (inb_of g4) (And.intro b5 (And.intro (inb_of g4) (And.intro b6 (And.intro (inb_of g4) (And.intro b7 (inb_of g4)))))))) (by kernel_rfl) (by kernel_rfl) ?_
              exact J_mk (decide (((a1.getD x2.toNat default).Y) > 600)) hm (by kernel_rfl) (by kernel_rfl)
    · replace hm := bif_f b3 hm
      refine R_exit 0 (by kernel_rfl) ?_
      obtain rfl := Option.some.inj hm
      exact L1_mk () (by kernel_rfl) (by kernel_rfl)

set_option maxRecDepth 100000 in
theorem ref09_Ranged_ok (a1 : List Point) (r : Bool) (hm : ref09_Ranged a1 = some r) : CtX Try.prog globs 64 0 0 [.one (tl e_Point default a1)] [] (ref09_Ranged_x r) (ref09_Ranged_o r) := by
  unfold ref09_Ranged at hm
  refine CtX_of_E (fn := Try.f64) (c := nd Try.f64 1) (nt := 40) (by kernel_rfl) (by kernel_rfl) (by kernel_rfl) (by kernel_rfl) fun E => ?_
  refine R_sq Try.f64 2 3 (by kernel_rfl) ?_
  refine R_rn Try.f64 2 0 [] [] 0 ⟨[(0, vc (tl e_Point default a1))], []⟩ o0 (by kernel_rfl) (by kernel_rfl) ?_
  refine R_sq Try.f64 6 7 (by kernel_rfl) ?_
  refine R_sq Try.f64 12 13 (by kernel_rfl) ?_
  refine R_rn Try.f64 12 1 [] [] 0 ⟨[(0, vc (tl e_Point default a1)), (3, vi 0)], []⟩ o0 (by kernel_rfl) (by kernel_rfl) ?_
  obtain ⟨u12, h11, hm⟩ := bind_s hm
  refine R_loop1 (nd Try.f64 52) 0 (by kernel_rfl) FUEL (fun o => ref09_Ranged_L1_T) (fun v st => RetQ Try.prog Try.f64 (ref09_Ranged_x v) (ref09_Ranged_o v) .ret st) u12 (HL_enter (ref09_Ranged_L1_S a1 0) (by kernel_rfl) (by kernel_rfl) (ref09_Ranged_L1_ok E a1 FUEL 0 u12 h11)) ?_ ?_
  · rintro v13 rfl st hr
    obtain rfl := Option.some.inj hm
    exact hr
  · rintro o10 rfl
    replace hm : _ = some r := hm
    refine R_sq Try.f64 14 15 (by kernel_rfl) ?_
    refine R_rn Try.f64 14 6 [] [] 0 ⟨[(2, vb true)], []⟩ o0 (by kernel_rfl) (by kernel_rfl) ?_
    obtain rfl := Option.some.inj hm
    refine R_ret (by kernel_rfl) ?_
    exact ret_mk (by kernel_rfl) (by kernel_rfl)

end Saw
end Go.SL

namespace Go.SL
namespace Saw
open Go.Proofs
set_option maxHeartbeats 4000000

def ref09_Area2_x (r : Int) : V := vi r

def ref09_Area2_o (r : Int) : List (Nat × (Nat × O)) := []

theorem ref09_Area2_f (r : Int) : Frozen (ref09_Area2_o r) := by
  intro i k o h
  unfold ref09_Area2_o at h
  cases h

def ref09_Area2_L2_S (a1 : List Point) (x7 : Int) (x8 : Int) : St :=
  ⟨[(0, vc (tl e_Point default a1)), (3, vi x7), (4, vi x8)], []⟩

def ref09_Area2_L2_T (x13 : Int) : St :=
  ⟨[(3, vi x13)], []⟩

def ref09_Area2_k1_S (a1 : List Point) (x5 : Bool) : St :=
  ⟨[(0, vc (tl e_Point default a1)), (13, vb x5)], []⟩

set_option maxRecDepth 100000 in
theorem ref09_Area2_L2_ok (E : Env 0) (a1 : List Point) : ∀ (n : Nat) (x7 : Int) (x8 : Int) (res : Int), ref09_Area2_L2 a1 n x7 x8 = some res → HL (kx E 48 0) (nd Try.f65 244) (loopQ0 0 (fun o => ref09_Area2_L2_T o) res) n (ref09_Area2_L2_S a1 x7 x8) := by
  intro n
  induction n with
  | zero =>
    intro x7 x8 res hm
    cases hm
  | succ n ih =>
    intro x7 x8 res hm
    refine HL_succ ?_
    refine R_sq Try.f65 488 489 (by kernel_rfl) ?_
    refine R_sq Try.f65 976 977 (by kernel_rfl) ?_
    refine R_rn Try.f65 976 5 [] [] 0 ⟨[(0, vc (tl e_Point default a1)), (3, vi x7), (4, vi x8), (17, vb (decide (x8 < ((a1.length : Nat) : Int))))], []⟩ o0 (by kernel_rfl) (by kernel_rfl) ?_
    refine R_cn Try.f65 (.tmp 17) 1954 1955 (by kernel_rfl) (decide (x8 < ((a1.length : Nat) : Int))) (by kernel_rfl) (fun b9 => ?_) (fun b9 => ?_)
    · replace hm := bif_t b9 hm
      refine R_skip (by kernel_rfl) ?_
      refine R_sq Try.f65 978 979 (by kernel_rfl) ?_
      refine R_bk Try.f65 1 1956 (by kernel_rfl) ?_
      refine R_sq Try.f65 3912 3913 (by kernel_rfl) ?_
      obtain ⟨g10, hm⟩ := bif_n hm
      obtain ⟨g11, hm⟩ := bif_n hm
      refine R_rn Try.f65 3912 7 [] [] 0 ⟨[(0, vc (tl e_Point default a1)), (3, vi x7), (4, vi x8), (5, vp 0 0)], [(0, bx 46 [ci ((a1.getD (Int.tmod (w64 (x8 + 1)) ((a1.length : Nat) : Int)).toNat default).X), ci ((a1.getD (Int.tmod (w64 (x8 + 1)) ((a1.length : Nat) : Int)).toNat default).Y)])]⟩ (o1 (And.intro (nz_of g10) (inb_of g11))) (by kernel_rfl) (by kernel_rfl) ?_
      obtain ⟨g12, hm⟩ := bif_n hm
      refine R_dr Try.f65 3913 8 [] [] [] [0, 0, 0, 6, 14, 30, 0, 64, 254, 511, 0, 1024, 0, 0, 12288, 28672, 61440, 130048, 262143, 524287] 1 ⟨[(0, vc (tl e_Point default a1)), (3, vi (w64 ((w64 (x7 + (w64 (((a1.getD x8.toNat default).X) * ((a1.getD (Int.tmod (w64 (x8 + 1)) ((a1.length : Nat) : Int)).toNat default).Y))))) - (w64 (((a1.getD (Int.tmod (w64 (x8 + 1)) ((a1.length : Nat) : Int)).toNat default).X) * ((a1.getD x8.toNat default).Y)))))), (4, vi x8)], []⟩ (o1 (And.intro (inb_of g12) (inb_of g12))) (by kernel_rfl) (by kernel_rfl) ?_
      refine R_rn Try.f65 979 6 [] [] 1 ⟨[(0, vc (tl e_Point default a1)), (3, vi (w64 ((w64 (x7 + (w64 (((a1.getD x8.toNat default).X) * ((a1.getD (Int.tmod (w64 (x8 + 1)) ((a1.length : Nat) : Int)).toNat default).Y))))) - (w64 (((a1.getD (Int.tmod (w64 (x8 + 1)) ((a1.length : Nat) : Int)).toNat default).X) * ((a1.getD x8.toNat default).Y)))))), (4, vi (w64 (x8 + 1)))], []⟩ o0 (by kernel_rfl) (by kernel_rfl) ?_
      exact HL_enter (ref09_Area2_L2_S a1 (w64 ((w64 (x7 + (w64 (((a1.getD x8.toNat default).X) * ((a1.getD (Int.tmod (w64 (x8 + 1)) ((a1.length : Nat) : Int)).toNat default).Y))))) - (w64 (((a1.getD (Int.tmod (w64 (x8 + 1)) ((a1.length : Nat) : Int)).toNat default).X) * ((a1.getD x8.toNat default).Y))))) (w64 (x8 + 1))) (by kernel_rfl) (by kernel_rfl) (ih (w64 ((w64 (x7 + (w64 (((a1.getD x8.toNat default).X) * ((a1.getD (Int.tmod (w64 (x8 + 1)) ((a1.length : Nat) : Int)).toNat default).Y))))) - (w64 (((a1.getD (Int.tmod (w64 (x8 + 1)) ((a1.length : Nat) : Int)).toNat default).X) * ((a1.getD x8.toNat default).Y))))) (w64 (x8 + 1)) _ hm)
    · replace hm := bif_f b9 hm
      refine R_exit 0 (by kernel_rfl) ?_
      obtain rfl := Option.some.inj hm
      exact L0_mk (by kernel_rfl) (by kernel_rfl)

set_option maxRecDepth 100000 in
theorem ref09_Area2_ok (a1 : List Point) (r : Int) (hm : ref09_Area2 a1 = some r) : CtX Try.prog globs 65 0 0 [.one (tl e_Point default a1)] [] (ref09_Area2_x r) (ref09_Area2_o r) := by
  unfold ref09_Area2 at hm
  refine CtX_of_E (fn := Try.f65) (c := nd Try.f65 1) (nt := 48) (by kernel_rfl) (by kernel_rfl) (by kernel_rfl) (by kernel_rfl) fun E => ?_
  refine R_sq Try.f65 2 3 (by kernel_rfl) ?_
  refine R_rn Try.f65 2 0 [] [] 0 ⟨[(0, vc (tl e_Point default a1))], []⟩ o0 (by kernel_rfl) (by kernel_rfl) ?_
  refine R_sq Try.f65 6 7 (by kernel_rfl) ?_
  refine R_join (ι := Bool) (nd Try.f65 12) (nd Try.f65 13) (by kernel_rfl) (fun p => ref09_Area2_k1_S a1 p) (fun p => ref09_Area2_k1 a1 p = some r) ?_ ?_
  · rintro x5 hm
    show H _ (ref09_Area2_k1_S a1 x5) (nd Try.f65 13) _
    refine R_cn Try.f65 (.tmp 13) 26 27 (by kernel_rfl) x5 (by kernel_rfl) (fun b6 => ?_) (fun b6 => ?_)
    · replace hm := bif_t b6 hm
      refine R_sq Try.f65 52 53 (by kernel_rfl) ?_
      refine R_rn Try.f65 52 2 [] [] 0 ⟨[(2, vi 0)], []⟩ o0 (by kernel_rfl) (by kernel_rfl) ?_
      obtain rfl := Option.some.inj hm
      refine R_ret (by kernel_rfl) ?_
      exact ret_mk (by kernel_rfl) (by kernel_rfl)
    · replace hm := bif_f b6 hm
      refine R_skip (by kernel_rfl) ?_
      refine R_sq Try.f65 14 15 (by kernel_rfl) ?_
      refine R_rn Try.f65 14 3 [] [] 0 ⟨[(0, vc (tl e_Point default a1)), (3, vi 0)], []⟩ o0 (by kernel_rfl) (by kernel_rfl) ?_
      refine R_sq Try.f65 30 31 (by kernel_rfl) ?_
      refine R_sq Try.f65 60 61 (by kernel_rfl) ?_
      refine R_rn Try.f65 60 4 [] [] 0 ⟨[(0, vc (tl e_Point default a1)), (3, vi 0), (4, vi 0)], []⟩ o0 (by kernel_rfl) (by kernel_rfl) ?_
      obtain ⟨o14, h15, hm⟩ := bind_s hm
      refine R_loop0 (nd Try.f65 244) 0 (by kernel_rfl) FUEL (fun o => ref09_Area2_L2_T o) o14 (HL_enter (ref09_Area2_L2_S a1 0 0) (by kernel_rfl) (by kernel_rfl) (ref09_Area2_L2_ok E a1 FUEL 0 0 o14 h15)) ?_
      refine R_sq Try.f65 62 63 (by kernel_rfl) ?_
      refine R_rn Try.f65 62 9 [] [] 0 ⟨[(2, vi o14)], []⟩ o0 (by kernel_rfl) (by kernel_rfl) ?_
      obtain rfl := Option.some.inj hm
      refine R_ret (by kernel_rfl) ?_
      exact ret_mk (by kernel_rfl) (by kernel_rfl)
  · rcases Bool.eq_false_or_eq_true (decide (((a1.length : Nat) : Int) > 32)) with b2 | b2
    · replace hm := bif_t b2 hm
      refine R_rn Try.f65 12 1 [(3, dfx true)] [] 0 ⟨[(0, vc (tl e_Point default a1)), (13, vb true)], []⟩ (o1 b2) (by kernel_rfl) (by kernel_rfl) ?_
      exact J_mk (true) hm (by kernel_rfl) (by kernel_rfl)
    · replace hm := bif_f b2 hm
      obtain ⟨v3, h4, hm⟩ := bind_s hm
      refine R_rn Try.f65 12 1 [(3, dfx false), (5, dex (cen [] [] 0 0 (ref09_Ranged_x v3) (ref09_Ranged_o v3) [9, 10] []))] [] 0 ⟨[(0, vc (tl e_Point default a1)), (13, vb (!v3))], []⟩ (o1 (And.intro b2 (callS (K := (kx E 48 0)) ⟨[(9, vb false), (10, vc (tl e_Point default a1))], []⟩ (opAt (rg Try.f65 12) 5) [] [] 0 o0 rfl (ref09_Ranged_ok a1 v3 h4) (.inl rfl) (by kernel_rfl)))) (by kernel_rfl) (by kernel_rfl) ?_
      exact J_mk (!v3) hm (by kernel_rfl) (by kernel_rfl)

end Saw
end Go.SL

namespace Go.SL
namespace Saw
open Go.Proofs
set_option maxHeartbeats 4000000

def ref09_Check_x (r : Int) : V := vi r

def ref09_Check_o (r : Int) : List (Nat × (Nat × O)) := []

theorem ref09_Check_f (r : Int) : Frozen (ref09_Check_o r) := by
  intro i k o h
  unfold ref09_Check_o at h
  cases h

set_option maxRecDepth 100000 in
theorem ref09_Check_ok (a1 : List Point) (r : Int) (hm : ref09_Check a1 = some r) : CtX Try.prog globs 35 0 0 [.one (tl e_Point default a1)] [] (ref09_Check_x r) (ref09_Check_o r) := by
  unfold ref09_Check at hm
  refine CtX_of_E (fn := Try.f35) (c := nd Try.f35 1) (nt := 19) (by kernel_rfl) (by kernel_rfl) (by kernel_rfl) (by kernel_rfl) fun E => ?_
  refine R_sq Try.f35 2 3 (by kernel_rfl) ?_
  refine R_rn Try.f35 2 0 [] [] 0 ⟨[(0, vc (tl e_Point default a1))], []⟩ o0 (by kernel_rfl) (by kernel_rfl) ?_
  refine R_sq Try.f35 6 7 (by kernel_rfl) ?_
  refine R_bk Try.f35 0 12 (by kernel_rfl) ?_
  refine R_sq Try.f35 24 25 (by kernel_rfl) ?_
  refine R_rn Try.f35 24 1 [] [] 0 ⟨[(0, vc (tl e_Point default a1)), (3, vb (decide (((a1.length : Nat) : Int) < 3)))], []⟩ o0 (by kernel_rfl) (by kernel_rfl) ?_
  refine R_cn Try.f35 (.tmp 3) 50 51 (by kernel_rfl) (decide (((a1.length : Nat) : Int) < 3)) (by kernel_rfl) (fun b2 => ?_) (fun b2 => ?_)
  · replace hm := bif_t b2 hm
    refine R_sq Try.f35 100 101 (by kernel_rfl) ?_
    refine R_rn Try.f35 100 2 [] [] 0 ⟨[(2, vi 3)], []⟩ o0 (by kernel_rfl) (by kernel_rfl) ?_
    obtain rfl := Option.some.inj hm
    refine R_ret (by kernel_rfl) ?_
    exact ret_mk (by kernel_rfl) (by kernel_rfl)
  · replace hm := bif_f b2 hm
    refine R_sq Try.f35 102 103 (by kernel_rfl) ?_
    refine R_rn Try.f35 102 3 [] [] 0 ⟨[(0, vc (tl e_Point default a1)), (7, vb (decide (((a1.length : Nat) : Int) > 32)))], []⟩ o0 (by kernel_rfl) (by kernel_rfl) ?_
    refine R_cn Try.f35 (.tmp 7) 206 207 (by kernel_rfl) (decide (((a1.length : Nat) : Int) > 32)) (by kernel_rfl) (fun b3 => ?_) (fun b3 => ?_)
    · replace hm := bif_t b3 hm
      refine R_sq Try.f35 412 413 (by kernel_rfl) ?_
      refine R_rn Try.f35 412 4 [] [] 0 ⟨[(2, vi 4)], []⟩ o0 (by kernel_rfl) (by kernel_rfl) ?_
      obtain rfl := Option.some.inj hm
      refine R_ret (by kernel_rfl) ?_
      exact ret_mk (by kernel_rfl) (by kernel_rfl)
    · replace hm := bif_f b3 hm
      refine R_sq Try.f35 414 415 (by kernel_rfl) ?_
      obtain ⟨v4, h5, hm⟩ := bind_s hm
      refine R_rn Try.f35 414 5 [(1, dex (cen [] [] 0 0 (ref09_Ranged_x v4) (ref09_Ranged_o v4) [12] []))] [] 0 ⟨[(0, vc (tl e_Point default a1)), (11, vb (!v4))], []⟩ (o1 (callS (K := (kx E 19 0)) ⟨[(12, vc (tl e_Point default a1))], []⟩ (opAt (rg Try.f35 414) 1) [] [] 0 o0 rfl (ref09_Ranged_ok a1 v4 h5) (.inl rfl) (by kernel_rfl))) (by kernel_rfl) (by kernel_rfl) ?_
      refine R_cn Try.f35 (.tmp 11) 830 831 (by kernel_rfl) (!v4) (by kernel_rfl) (fun b6 => ?_) (fun b6 => ?_)
      · replace hm := bif_t b6 hm
        refine R_sq Try.f35 1660 1661 (by kernel_rfl) ?_
        refine R_rn Try.f35 1660 6 [] [] 0 ⟨[(2, vi 9)], []⟩ o0 (by kernel_rfl) (by kernel_rfl) ?_
        obtain rfl := Option.some.inj hm
        refine R_ret (by kernel_rfl) ?_
        exact ret_mk (by kernel_rfl) (by kernel_rfl)
      · replace hm := bif_f b6 hm
        refine R_sq Try.f35 1662 1663 (by kernel_rfl) ?_
        obtain ⟨v7, h8, hm⟩ := bind_s hm
        refine R_rn Try.f35 1662 7 [(1, dex (cen [] [] 0 0 (ref09_Area2_x v7) (ref09_Area2_o v7) [16] []))] [] 0 ⟨[(15, vb (v7 == 0))], []⟩ (o1 (callS (K := (kx E 19 0)) ⟨[(16, vc (tl e_Point default a1))], []⟩ (opAt (rg Try.f35 1662) 1) [] [] 0 o0 rfl (ref09_Area2_ok a1 v7 h8) (.inl rfl) (by kernel_rfl))) (by kernel_rfl) (by kernel_rfl) ?_
        refine R_cn Try.f35 (.tmp 15) 3326 3327 (by kernel_rfl) (v7 == 0) (by kernel_rfl) (fun b9 => ?_) (fun b9 => ?_)
        · replace hm := bif_t b9 hm
          refine R_sq Try.f35 6652 6653 (by kernel_rfl) ?_
          refine R_rn Try.f35 6652 8 [] [] 0 ⟨[(2, vi 19)], []⟩ o0 (by kernel_rfl) (by kernel_rfl) ?_
          obtain rfl := Option.some.inj hm
          refine R_ret (by kernel_rfl) ?_
          exact ret_mk (by kernel_rfl) (by kernel_rfl)
        · replace hm := bif_f b9 hm
          refine R_skip (by kernel_rfl) ?_
          refine R_sq Try.f35 14 15 (by kernel_rfl) ?_
          refine R_rn Try.f35 14 9 [] [] 0 ⟨[(2, vi 0)], []⟩ o0 (by kernel_rfl) (by kernel_rfl) ?_
          obtain rfl := Option.some.inj hm
          refine R_ret (by kernel_rfl) ?_
          exact ret_mk (by kernel_rfl) (by kernel_rfl)

end Saw
end Go.SL

namespace Go.SL
namespace Saw
open Go.Proofs
set_option maxHeartbeats 4000000

def ref10_Row_x (r : Span) : V := va [ci r.A, ci r.B]

def ref10_Row_o (r : Span) : List (Nat × (Nat × O)) := []

theorem ref10_Row_f (r : Span) : Frozen (ref10_Row_o r) := by
  intro i k o h
  unfold ref10_Row_o at h
  cases h

def ref10_Row_k1_S (a1 : Section) (a2 : Int) (x4 : Bool) : St :=
  ⟨[(1, vi a2), (2, vp 0 0), (4, vp 1 0), (18, vb x4)], [(0, bx 24 [ci a1.Low, tl e_Span default a1.Rows]), (1, bx 35 [ci 0, ci 0])]⟩

set_option maxRecDepth 100000 in
theorem ref10_Row_ok (a1 : Section) (a2 : Int) (r : Span) (hm : ref10_Row a1 a2 = some r) : CtX Try.prog globs 62 0 0 [.agg [ci a1.Low, tl e_Span default a1.Rows], .one (ci a2)] [] (ref10_Row_x r) (ref10_Row_o r) := by
  unfold ref10_Row at hm
  refine CtX_of_E (fn := Try.f62) (c := nd Try.f62 1) (nt := 28) (by kernel_rfl) (by kernel_rfl) (by kernel_rfl) (by kernel_rfl) fun E => ?_
  refine R_sq Try.f62 2 3 (by kernel_rfl) ?_
  refine R_rn Try.f62 2 0 [] [] 0 ⟨[(1, vi a2), (2, vp 0 0), (4, vp 1 0)], [(0, bx 24 [ci a1.Low, tl e_Span default a1.Rows]), (1, bx 35 [ci 0, ci 0])]⟩ o0 (by kernel_rfl) (by kernel_rfl) ?_
  refine R_sq Try.f62 6 7 (by kernel_rfl) ?_
  refine R_join (ι := Bool) (nd Try.f62 12) (nd Try.f62 13) (by kernel_rfl) (fun p => ref10_Row_k1_S a1 a2 p) (fun p => ref10_Row_k1 a1 a2 p = some r) ?_ ?_
  · rintro x4 hm
    show H _ (ref10_Row_k1_S a1 a2 x4) (nd Try.f62 13) _
    refine R_cn Try.f62 (.tmp 18) 26 27 (by kernel_rfl) x4 (by kernel_rfl) (fun b5 => ?_) (fun b5 => ?_)
    · replace hm := bif_t b5 hm
      refine R_sq Try.f62 52 53 (by kernel_rfl) ?_
      refine R_rn Try.f62 52 2 [] [] 2 ⟨[(4, vp 1 0)], [(1, bx 35 [ci 0, ci 0])]⟩ o0 (by kernel_rfl) (by kernel_rfl) ?_
      obtain rfl := Option.some.inj hm
      refine R_ret (by kernel_rfl) ?_
      exact ret_mk (by kernel_rfl) (by kernel_rfl)
    · replace hm := bif_f b5 hm
      refine R_skip (by kernel_rfl) ?_
      refine R_sq Try.f62 14 15 (by kernel_rfl) ?_
      obtain ⟨g6, hm⟩ := bif_n hm
      refine R_rn Try.f62 14 3 [] [] 2 ⟨[(4, vp 1 0)], [(1, bx 35 [ci ((a1.Rows.getD (w64 (a2 - a1.Low)).toNat default).A), ci ((a1.Rows.getD (w64 (a2 - a1.Low)).toNat default).B)])]⟩ (o1 (inb_of g6)) (by kernel_rfl) (by kernel_rfl) ?_
      obtain rfl := Option.some.inj hm
      refine R_ret (by kernel_rfl) ?_
      exact ret_mk (by kernel_rfl) (by kernel_rfl)
  · rcases Bool.eq_false_or_eq_true (decide (a2 < a1.Low)) with b3 | b3
    · replace hm := bif_t b3 hm
      refine R_rn Try.f62 12 1 [(4, dfx true)] [] 2 ⟨[(1, vi a2), (2, vp 0 0), (4, vp 1 0), (18, vb true)], [(0, bx 24 [ci a1.Low, tl e_Span default a1.Rows]), (1, bx 35 [ci 0, ci 0])]⟩ (o1 b3) (by kernel_rfl) (by kernel_rfl) ?_
      exact J_mk (true) hm (by kernel_rfl) (by kernel_rfl)
    · replace hm := bif_f b3 hm
      refine R_rn Try.f62 12 1 [(4, dfx false)] [] 2 ⟨[(1, vi a2), (2, vp 0 0), (4, vp 1 0), (18, vb (decide (a2 ≥ (w64 (a1.Low + ((a1.Rows.length : Nat) : Int))))))], [(0, bx 24 [ci a1.Low, tl e_Span default a1.Rows]), (1, bx 35 [ci 0, ci 0])]⟩ (o1 b3) (by kernel_rfl) (by kernel_rfl) ?_
      exact J_mk (decide (a2 ≥ (w64 (a1.Low + ((a1.Rows.length : Nat) : Int))))) hm (by kernel_rfl) (by kernel_rfl)

end Saw
end Go.SL

namespace Go.SL
namespace Saw
open Go.Proofs
set_option maxHeartbeats 4000000

def ref10_Dropped_x (r : Section) : V := va [ci r.Low, .own 0 0 2 r.Rows.length]

def ref10_Dropped_o (r : Section) : List (Nat × (Nat × O)) := [(0, ro 0 35 2 r.Rows.length (rf e_Span r.Rows))]

theorem ref10_Dropped_f (r : Section) : Frozen (ref10_Dropped_o r) := by
  intro i k o h
  unfold ref10_Dropped_o at h
  rw [look_cons] at h
  split at h
  · cases h; exact fun _ _ => rfl
  · cases h

def ref10_Dropped_k2_S (a1 : Int) (a2 : List Span) (x3 : Int) (x8 : Bool) : St :=
  ⟨[(0, vi a1), (1, vc (tl e_Span default a2)), (4, vp 0 0), (5, vi x3), (6, vi ((a2.length : Nat) : Int)), (21, vb x8)], [(0, bx 24 [ci 0, .emp])]⟩

def ref10_Dropped_L1_S (a1 : Int) (a2 : List Span) (x3 : Int) : St :=
  ⟨[(0, vi a1), (1, vc (tl e_Span default a2)), (4, vp 0 0), (5, vi x3), (6, vi ((a2.length : Nat) : Int))], [(0, bx 24 [ci 0, .emp])]⟩

def ref10_Dropped_L1_T (a1 : Int) (a2 : List Span) (x10 : Int) : St :=
  ⟨[(0, vi a1), (1, vc (tl e_Span default a2)), (4, vp 0 0), (5, vi x10), (6, vi ((a2.length : Nat) : Int))], [(0, bx 24 [ci 0, .emp])]⟩

def ref10_Dropped_k4_S (a1 : Int) (a2 : List Span) (o11 : Int) (x13 : Int) (x18 : Bool) : St :=
  ⟨[(0, vi a1), (1, vc (tl e_Span default a2)), (4, vp 0 0), (5, vi o11), (6, vi x13), (34, vb x18)], [(0, bx 24 [ci 0, .emp])]⟩

def ref10_Dropped_L3_S (a1 : Int) (a2 : List Span) (o11 : Int) (x13 : Int) : St :=
  ⟨[(0, vi a1), (1, vc (tl e_Span default a2)), (4, vp 0 0), (5, vi o11), (6, vi x13)], [(0, bx 24 [ci 0, .emp])]⟩

def ref10_Dropped_L3_T (a1 : Int) (a2 : List Span) (o11 : Int) (x20 : Int) : St :=
  ⟨[(0, vi a1), (1, vc (tl e_Span default a2)), (4, vp 0 0), (5, vi o11), (6, vi x20)], [(0, bx 24 [ci 0, .emp])]⟩

def ref10_Dropped_k6_S (a1 : Int) (a2 : List Span) (o11 : Int) (o21 : Int) (x24 : Int) (l25 : List Span) (x31 : Span) : St :=
  ⟨[(1, vc (tl e_Span default a2)), (4, vp 0 0), (6, vi o21), (7, vp 1 0), (8, vi x24), (9, vp 3 0)], [(0, bx 24 [ci 0, .emp]), (1, bx 24 [ci (w64 (a1 + o11)), .own 2 0 2 l25.length]), (2, ro 0 35 2 l25.length (rf e_Span l25)), (3, bx 35 [ci x31.A, ci x31.B])]⟩

def ref10_Dropped_L5_S (a1 : Int) (a2 : List Span) (o11 : Int) (o21 : Int) (x24 : Int) (l25 : List Span) (l25n : Nat) : St :=
  ⟨[(1, vc (tl e_Span default a2)), (4, vp 0 0), (6, vi o21), (7, vp 1 0), (8, vi x24)], [(0, bx 24 [ci 0, .emp]), (1, bx 24 [ci (w64 (a1 + o11)), .own 2 0 2 l25n]), (2, ro 0 35 2 l25n (rf e_Span l25))]⟩

def ref10_Dropped_L5_T (a1 : Int) (o11 : Int) (l33 : List Span) : St :=
  ⟨[(4, vp 0 0), (7, vp 1 0)], [(0, bx 24 [ci 0, .emp]), (1, bx 24 [ci (w64 (a1 + o11)), .own 2 0 2 l33.length]), (2, ro 0 35 2 l33.length (rf e_Span l33))]⟩

set_option maxRecDepth 100000 in
theorem ref10_Dropped_L1_ok (E : Env 0) (a1 : Int) (a2 : List Span) : ∀ (n : Nat) (x3 : Int) (res : Int), ref10_Dropped_L1 a2 n x3 = some res → HL (kx E 65 0) (nd Try.f50 56) (loopQ0 0 (fun o => ref10_Dropped_L1_T a1 a2 o) res) n (ref10_Dropped_L1_S a1 a2 x3) := by
  intro n
  induction n with
  | zero =>
    intro x3 res hm
    cases hm
  | succ n ih =>
    intro x3 res hm
    refine HL_succ ?_
    refine R_sq Try.f50 112 113 (by kernel_rfl) ?_
    refine R_join (ι := Bool) (nd Try.f50 224) (nd Try.f50 225) (by kernel_rfl) (fun p => ref10_Dropped_k2_S a1 a2 x3 p) (fun p => ref10_Dropped_k2 x3 (ref10_Dropped_L1 a2 n) p = some res) ?_ ?_
    · rintro x8 hm
      show H _ (ref10_Dropped_k2_S a1 a2 x3 x8) (nd Try.f50 225) _
      refine R_cn Try.f50 (.tmp 21) 450 451 (by kernel_rfl) x8 (by kernel_rfl) (fun b9 => ?_) (fun b9 => ?_)
      · replace hm := bif_t b9 hm
        refine R_skip (by kernel_rfl) ?_
        refine R_bk Try.f50 1 226 (by kernel_rfl) ?_
        refine R_rn Try.f50 226 3 [] [] 1 ⟨[(0, vi a1), (1, vc (tl e_Span default a2)), (4, vp 0 0), (5, vi (w64 (x3 + 1))), (6, vi ((a2.length : Nat) : Int))], [(0, bx 24 [ci 0, .emp])]⟩ o0 (by kernel_rfl) (by kernel_rfl) ?_
        exact HL_enter (ref10_Dropped_L1_S a1 a2 (w64 (x3 + 1))) (by kernel_rfl) (by kernel_rfl) (ih (w64 (x3 + 1)) _ hm)
      · replace hm := bif_f b9 hm
        refine R_exit 0 (by kernel_rfl) ?_
        obtain rfl := Option.some.inj hm
        exact L0_mk (by kernel_rfl) (by kernel_rfl)
    · rcases Bool.eq_false_or_eq_true (decide (x3 < ((a2.length : Nat) : Int))) with b4 | b4
      · replace hm := bif_t b4 hm
        obtain ⟨g5, hm⟩ := bif_n hm
        obtain ⟨v6, h7, hm⟩ := bind_s hm
        refine R_rn Try.f50 224 2 [(3, dfx true), (8, dex (cen [] [] 1 0 (ref10_empty_x v6) (ref10_empty_o v6) [15, 19] []))] [] 1 ⟨[(0, vi a1), (1, vc (tl e_Span default a2)), (4, vp 0 0), (5, vi x3), (6, vi ((a2.length : Nat) : Int)), (16, vc (tl e_Span default a2)), (17, vi x3), (18, vc (.lptr (e_Span (a2.getD x3.toNat default)))), (19, va [ci ((a2.getD x3.toNat default).A), ci ((a2.getD x3.toNat default).B)]), (20, vb v6), (21, vb v6)], [(0, bx 24 [ci 0, .emp])]⟩ (o1 (And.intro b4 (And.intro (inb_of g5) (callS (K := (kx E 65 0)) ⟨[(15, vb true), (19, va [ci ((a2.getD x3.toNat default).A), ci ((a2.getD x3.toNat default).B)])], []⟩ (opAt (rg Try.f50 224) 8) [] [] 1 o0 rfl (ref10_empty_ok (a2.getD x3.toNat default) v6 h7) (.inl rfl) (by kernel_rfl))))) (by kernel_rfl) (by kernel_rfl) ?_
        exact J_mk (v6) hm (by kernel_rfl) (by kernel_rfl)
      · replace hm := bif_f b4 hm
        refine R_rn Try.f50 224 2 [(3, dfx false)] [] 1 ⟨[(0, vi a1), (1, vc (tl e_Span default a2)), (4, vp 0 0), (5, vi x3), (6, vi ((a2.length : Nat) : Int)), (21, vb false)], [(0, bx 24 [ci 0, .emp])]⟩ (o1 b4) (by kernel_rfl) (by kernel_rfl) ?_
        exact J_mk (false) hm (by kernel_rfl) (by kernel_rfl)

set_option maxRecDepth 100000 in
theorem ref10_Dropped_L3_ok (E : Env 0) (a1 : Int) (a2 : List Span) (o11 : Int) : ∀ (n : Nat) (x13 : Int) (res : Int), ref10_Dropped_L3 a2 o11 n x13 = some res → HL (kx E 65 0) (nd Try.f50 120) (loopQ0 2 (fun o => ref10_Dropped_L3_T a1 a2 o11 o) res) n (ref10_Dropped_L3_S a1 a2 o11 x13) := by
  intro n
  induction n with
  | zero =>
    intro x13 res hm
    cases hm
  | succ n ih =>
    intro x13 res hm
    refine HL_succ ?_
    refine R_sq Try.f50 240 241 (by kernel_rfl) ?_
    refine R_join (ι := Bool) (nd Try.f50 480) (nd Try.f50 481) (by kernel_rfl) (fun p => ref10_Dropped_k4_S a1 a2 o11 x13 p) (fun p => ref10_Dropped_k4 x13 (ref10_Dropped_L3 a2 o11 n) p = some res) ?_ ?_
    · rintro x18 hm
      show H _ (ref10_Dropped_k4_S a1 a2 o11 x13 x18) (nd Try.f50 481) _
      refine R_cn Try.f50 (.tmp 34) 962 963 (by kernel_rfl) x18 (by kernel_rfl) (fun b19 => ?_) (fun b19 => ?_)
      · replace hm := bif_t b19 hm
        refine R_skip (by kernel_rfl) ?_
        refine R_bk Try.f50 3 482 (by kernel_rfl) ?_
        refine R_rn Try.f50 482 5 [] [] 1 ⟨[(0, vi a1), (1, vc (tl e_Span default a2)), (4, vp 0 0), (5, vi o11), (6, vi (w64 (x13 - 1)))], [(0, bx 24 [ci 0, .emp])]⟩ o0 (by kernel_rfl) (by kernel_rfl) ?_
        exact HL_enter (ref10_Dropped_L3_S a1 a2 o11 (w64 (x13 - 1))) (by kernel_rfl) (by kernel_rfl) (ih (w64 (x13 - 1)) _ hm)
      · replace hm := bif_f b19 hm
        refine R_exit 2 (by kernel_rfl) ?_
        obtain rfl := Option.some.inj hm
        exact L0_mk (by kernel_rfl) (by kernel_rfl)
    · rcases Bool.eq_false_or_eq_true (decide (x13 > o11)) with b14 | b14
      · replace hm := bif_t b14 hm
        obtain ⟨g15, hm⟩ := bif_n hm
        obtain ⟨v16, h17, hm⟩ := bind_s hm
        refine R_rn Try.f50 480 4 [(3, dfx true), (9, dex (cen [] [] 1 0 (ref10_empty_x v16) (ref10_empty_o v16) [27, 32] []))] [] 1 ⟨[(0, vi a1), (1, vc (tl e_Span default a2)), (4, vp 0 0), (5, vi o11), (6, vi x13), (28, vc (tl e_Span default a2)), (29, vi x13), (30, vi (w64 (x13 - 1))), (31, vc (.lptr (e_Span (a2.getD (w64 (x13 - 1)).toNat default)))), (32, va [ci ((a2.getD (w64 (x13 - 1)).toNat default).A), ci ((a2.getD (w64 (x13 - 1)).toNat default).B)]), (33, vb v16), (34, vb v16)], [(0, bx 24 [ci 0, .emp])]⟩ (o1 (And.intro b14 (And.intro (inb_of g15) (callS (K := (kx E 65 0)) ⟨[(27, vb true), (32, va [ci ((a2.getD (w64 (x13 - 1)).toNat default).A), ci ((a2.getD (w64 (x13 - 1)).toNat default).B)])], []⟩ (opAt (rg Try.f50 480) 9) [] [] 1 o0 rfl (ref10_empty_ok (a2.getD (w64 (x13 - 1)).toNat default) v16 h17) (.inl rfl) (by kernel_rfl))))) (by kernel_rfl) (by kernel_rfl) ?_
        exact J_mk (v16) hm (by kernel_rfl) (by kernel_rfl)
      · replace hm := bif_f b14 hm
        refine R_rn Try.f50 480 4 [(3, dfx false)] [] 1 ⟨[(0, vi a1), (1, vc (tl e_Span default a2)), (4, vp 0 0), (5, vi o11), (6, vi x13), (34, vb false)], [(0, bx 24 [ci 0, .emp])]⟩ (o1 b14) (by kernel_rfl) (by kernel_rfl) ?_
        exact J_mk (false) hm (by kernel_rfl) (by kernel_rfl)

set_option maxRecDepth 100000 in
theorem ref10_Dropped_L5_ok (E : Env 0) (a1 : Int) (a2 : List Span) (o11 : Int) (o21 : Int) : ∀ (n : Nat) (x24 : Int) (l25 : List Span) (l25n : Nat) (res : (List Span)), l25.length = l25n → ref10_Dropped_L5 a2 o21 n x24 l25 = some res → HL (kx E 65 0) (nd Try.f50 2036) (loopQ0 4 (fun o => ref10_Dropped_L5_T a1 o11 o) res) n (ref10_Dropped_L5_S a1 a2 o11 o21 x24 l25 l25n) := by
  intro n
  induction n with
  | zero =>
    intro x24 l25 l25n res hl0 hm
    cases hm
  | succ n ih =>
    intro x24 l25 l25n res hl0 hm
    subst hl0
    refine HL_succ ?_
    refine R_sq Try.f50 4072 4073 (by kernel_rfl) ?_
    refine R_sq Try.f50 8144 8145 (by kernel_rfl) ?_
    refine R_rn Try.f50 8144 10 [] [] 3 ⟨[(1, vc (tl e_Span default a2)), (4, vp 0 0), (6, vi o21), (7, vp 1 0), (8, vi x24), (48, vb (decide (x24 < o21)))], [(0, bx 24 [ci 0, .emp]), (1, bx 24 [ci (w64 (a1 + o11)), .own 2 0 2 l25.length]), (2, ro 0 35 2 l25.length (rf e_Span l25))]⟩ o0 (by kernel_rfl) (by kernel_rfl) ?_
    refine R_cn Try.f50 (.tmp 48) 16290 16291 (by kernel_rfl) (decide (x24 < o21)) (by kernel_rfl) (fun b26 => ?_) (fun b26 => ?_)
    · replace hm := bif_t b26 hm
      refine R_skip (by kernel_rfl) ?_
      refine R_sq Try.f50 8146 8147 (by kernel_rfl) ?_
      refine R_bk Try.f50 5 16292 (by kernel_rfl) ?_
      refine R_sq Try.f50 32584 32585 (by kernel_rfl) ?_
      obtain ⟨g27, hm⟩ := bif_n hm
      refine R_rn Try.f50 32584 12 [] [] 3 ⟨[(1, vc (tl e_Span default a2)), (4, vp 0 0), (6, vi o21), (7, vp 1 0), (8, vi x24), (9, vp 3 0)], [(0, bx 24 [ci 0, .emp]), (1, bx 24 [ci (w64 (a1 + o11)), .own 2 0 2 l25.length]), (2, ro 0 35 2 l25.length (rf e_Span l25)), (3, bx 35 [ci ((a2.getD x24.toNat default).A), ci ((a2.getD x24.toNat default).B)])]⟩ (o1 (inb_of g27)) (by kernel_rfl) (by kernel_rfl) ?_
      refine R_join (ι := Span) (nd Try.f50 65170) (nd Try.f50 65171) (by kernel_rfl) (fun p => ref10_Dropped_k6_S a1 a2 o11 o21 x24 l25 p) (fun p => ref10_Dropped_k6 x24 l25 (ref10_Dropped_L5 a2 o21 n) p = some res) ?_ ?_
      · rintro x31 hm
        show H _ (ref10_Dropped_k6_S a1 a2 o11 o21 x24 l25 x31) (nd Try.f50 65171) _
        obtain ⟨g32, hm⟩ := bif_n hm
        refine R_rn Try.f50 65171 15 [(3, drw 4 0 (rf e_Span ([x31] : List Span))), (4, drw 2 1 (rf e_Span (l25 ++ ([x31] : List Span))))] [] 4 ⟨[(1, vc (tl e_Span default a2)), (4, vp 0 0), (6, vi o21), (7, vp 1 0), (8, vi x24)], [(0, bx 24 [ci 0, .emp]), (1, bx 24 [ci (w64 (a1 + o11)), .own 2 1 2 (l25.length + 1)]), (2, ro 1 35 2 (l25.length + 1) (rf e_Span (l25 ++ ([x31] : List Span))))]⟩ (o1 (And.intro (litP e_Span default 2 (fun _ => rfl) ([x31] : List Span) 1 rfl) (apP e_Span default l25 ([x31] : List Span) l25.length 1 2 16 (1 ≤ 1) (Nat.le_refl _) rfl rfl (fun _ => rfl) (room_of g32)))) (by kernel_rfl) (by kernel_rfl) ?_
        refine R_rn Try.f50 8147 11 [] [] 5 ⟨[(1, vc (tl e_Span default a2)), (4, vp 0 0), (6, vi o21), (7, vp 1 0), (8, vi (w64 (x24 + 1)))], [(0, bx 24 [ci 0, .emp]), (1, bx 24 [ci (w64 (a1 + o11)), .own 2 1 2 (l25.length + 1)]), (2, ro 1 35 2 (l25.length + 1) (rf e_Span (l25 ++ ([x31] : List Span))))]⟩ o0 (by kernel_rfl) (by kernel_rfl) ?_
        exact HL_enter (ref10_Dropped_L5_S a1 a2 o11 o21 (w64 (x24 + 1)) (l25 ++ ([x31] : List Span)) (l25.length + 1)) (by kernel_rfl) (by kernel_rfl) (ih (w64 (x24 + 1)) (l25 ++ ([x31] : List Span)) (l25.length + 1) _ (len_app rfl rfl) hm)
      · refine R_sq Try.f50 130340 130341 (by kernel_rfl) ?_
        obtain ⟨v28, h29, hm⟩ := bind_s hm
        refine R_rn Try.f50 130340 13 [(1, dex (cen [] [] 4 0 (ref10_empty_x v28) (ref10_empty_o v28) [55] []))] [] 4 ⟨[(1, vc (tl e_Span default a2)), (4, vp 0 0), (6, vi o21), (7, vp 1 0), (8, vi x24), (9, vp 3 0), (56, vb v28)], [(0, bx 24 [ci 0, .emp]), (1, bx 24 [ci (w64 (a1 + o11)), .own 2 0 2 l25.length]), (2, ro 0 35 2 l25.length (rf e_Span l25)), (3, bx 35 [ci ((a2.getD x24.toNat default).A), ci ((a2.getD x24.toNat default).B)])]⟩ (o1 (callS (K := (kx E 65 0)) ⟨[(55, va [ci ((a2.getD x24.toNat default).A), ci ((a2.getD x24.toNat default).B)])], []⟩ (opAt (rg Try.f50 130340) 1) [] [] 4 o0 rfl (ref10_empty_ok (a2.getD x24.toNat default) v28 h29) (.inl rfl) (by kernel_rfl))) (by kernel_rfl) (by kernel_rfl) ?_
        refine R_cn Try.f50 (.tmp 56) 260682 260683 (by kernel_rfl) v28 (by kernel_rfl) (fun b30 => ?_) (fun b30 => ?_)
        · replace hm := bif_t b30 hm
          refine R_rn Try.f50 260682 14 [] [] 4 ⟨[(1, vc (tl e_Span default a2)), (4, vp 0 0), (6, vi o21), (7, vp 1 0), (8, vi x24), (9, vp 3 0)], [(0, bx 24 [ci 0, .emp]), (1, bx 24 [ci (w64 (a1 + o11)), .own 2 0 2 l25.length]), (2, ro 0 35 2 l25.length (rf e_Span l25)), (3, bx 35 [ci 0, ci 0])]⟩ o0 (by kernel_rfl) (by kernel_rfl) ?_
          exact J_mk ((Span.mk 0 0)) hm (by kernel_rfl) (by kernel_rfl)
        · replace hm := bif_f b30 hm
          refine R_skip (by kernel_rfl) ?_
          exact J_mk ((a2.getD x24.toNat default)) hm (by kernel_rfl) (by kernel_rfl)
    · replace hm := bif_f b26 hm
      refine R_exit 4 (by kernel_rfl) ?_
      obtain rfl := Option.some.inj hm
      exact L0_mk (by kernel_rfl) (by kernel_rfl)

set_option maxRecDepth 100000 in
theorem ref10_Dropped_ok (a1 : Int) (a2 : List Span) (r : Section) (hm : ref10_Dropped a1 a2 = some r) : CtX Try.prog globs 50 0 0 [.one (ci a1), .one (tl e_Span default a2)] [] (ref10_Dropped_x r) (ref10_Dropped_o r) := by
  unfold ref10_Dropped at hm
  refine CtX_of_E (fn := Try.f50) (c := nd Try.f50 1) (nt := 65) (by kernel_rfl) (by kernel_rfl) (by kernel_rfl) (by kernel_rfl) fun E => ?_
  refine R_sq Try.f50 2 3 (by kernel_rfl) ?_
  refine R_rn Try.f50 2 0 [] [] 0 ⟨[(0, vi a1), (1, vc (tl e_Span default a2)), (4, vp 0 0)], [(0, bx 24 [ci 0, .emp])]⟩ o0 (by kernel_rfl) (by kernel_rfl) ?_
  refine R_sq Try.f50 6 7 (by kernel_rfl) ?_
  refine R_rn Try.f50 6 1 [] [] 1 ⟨[(0, vi a1), (1, vc (tl e_Span default a2)), (4, vp 0 0), (5, vi 0), (6, vi ((a2.length : Nat) : Int))], [(0, bx 24 [ci 0, .emp])]⟩ o0 (by kernel_rfl) (by kernel_rfl) ?_
  refine R_sq Try.f50 14 15 (by kernel_rfl) ?_
  obtain ⟨o11, h12, hm⟩ := bind_s hm
  refine R_loop0 (nd Try.f50 56) 0 (by kernel_rfl) FUEL (fun o => ref10_Dropped_L1_T a1 a2 o) o11 (HL_enter (ref10_Dropped_L1_S a1 a2 0) (by kernel_rfl) (by kernel_rfl) (ref10_Dropped_L1_ok E a1 a2 FUEL 0 o11 h12)) ?_
  refine R_sq Try.f50 30 31 (by kernel_rfl) ?_
  obtain ⟨o21, h22, hm⟩ := bind_s hm
  refine R_loop0 (nd Try.f50 120) 2 (by kernel_rfl) FUEL (fun o => ref10_Dropped_L3_T a1 a2 o11 o) o21 (HL_enter (ref10_Dropped_L3_S a1 a2 o11 ((a2.length : Nat) : Int)) (by kernel_rfl) (by kernel_rfl) (ref10_Dropped_L3_ok E a1 a2 o11 FUEL ((a2.length : Nat) : Int) o21 h22)) ?_
  refine R_sq Try.f50 62 63 (by kernel_rfl) ?_
  refine R_sq Try.f50 124 125 (by kernel_rfl) ?_
  refine R_rn Try.f50 124 6 [] [] 1 ⟨[(0, vi a1), (1, vc (tl e_Span default a2)), (4, vp 0 0), (5, vi o11), (6, vi o21), (39, vb (o11 == o21))], [(0, bx 24 [ci 0, .emp])]⟩ o0 (by kernel_rfl) (by kernel_rfl) ?_
  refine R_cn Try.f50 (.tmp 39) 250 251 (by kernel_rfl) (o11 == o21) (by kernel_rfl) (fun b23 => ?_) (fun b23 => ?_)
  · replace hm := bif_t b23 hm
    refine R_sq Try.f50 500 501 (by kernel_rfl) ?_
    refine R_rn Try.f50 500 7 [] [] 1 ⟨[(4, vp 0 0)], [(0, bx 24 [ci 0, .emp])]⟩ o0 (by kernel_rfl) (by kernel_rfl) ?_
    refine H_fin [.ownB 0 1 1 35 2 (rf e_Span ([] : List Span))] ⟨[(4, vp 0 0)], [(0, bx 24 [ci 0, .own 1 0 2 0]), (1, ro 0 35 2 0 (rf e_Span ([] : List Span)))]⟩ o0 (by kernel_rfl) ?_
    refine H_fin [.len 1 (([] : List Span).length)] ⟨[(4, vp 0 0)], [(0, bx 24 [ci 0, .own 1 0 2 (([] : List Span).length)]), (1, ro 0 35 2 (([] : List Span).length) (rf e_Span ([] : List Span)))]⟩ (o1 (And.intro (show 0 = ([] : List Span).length from rfl) (show 0 = ([] : List Span).length from rfl))) (by kernel_rfl) ?_
    obtain rfl := Option.some.inj hm
    refine H_swap 1 0 (by kernel_rfl) ?_
    refine R_ret (by kernel_rfl) ?_
    exact ret_mk (by kernel_rfl) (by kernel_rfl)
  · replace hm := bif_f b23 hm
    refine R_skip (by kernel_rfl) ?_
    refine R_sq Try.f50 126 127 (by kernel_rfl) ?_
    refine R_rn Try.f50 126 8 [] [] 1 ⟨[(1, vc (tl e_Span default a2)), (4, vp 0 0), (5, vi o11), (6, vi o21), (7, vp 1 0)], [(0, bx 24 [ci 0, .emp]), (1, bx 24 [ci (w64 (a1 + o11)), .emp])]⟩ o0 (by kernel_rfl) (by kernel_rfl) ?_
    refine R_sq Try.f50 254 255 (by kernel_rfl) ?_
    refine R_sq Try.f50 508 509 (by kernel_rfl) ?_
    refine R_rn Try.f50 508 9 [] [] 2 ⟨[(1, vc (tl e_Span default a2)), (4, vp 0 0), (6, vi o21), (7, vp 1 0), (8, vi o11)], [(0, bx 24 [ci 0, .emp]), (1, bx 24 [ci (w64 (a1 + o11)), .emp])]⟩ o0 (by kernel_rfl) (by kernel_rfl) ?_
    refine H_fin [.ownB 1 1 2 35 2 (rf e_Span ([] : List Span))] ⟨[(1, vc (tl e_Span default a2)), (4, vp 0 0), (6, vi o21), (7, vp 1 0), (8, vi o11)], [(0, bx 24 [ci 0, .emp]), (1, bx 24 [ci (w64 (a1 + o11)), .own 2 0 2 0]), (2, ro 0 35 2 0 (rf e_Span ([] : List Span)))]⟩ o0 (by kernel_rfl) ?_
    obtain ⟨o34, h35, hm⟩ := bind_s hm
    refine R_loop0 (nd Try.f50 2036) 4 (by kernel_rfl) FUEL (fun o => ref10_Dropped_L5_T a1 o11 o) o34 (HL_enter (ref10_Dropped_L5_S a1 a2 o11 o21 o11 ([] : List Span) 0) (by kernel_rfl) (by kernel_rfl) (ref10_Dropped_L5_ok E a1 a2 o11 o21 FUEL o11 ([] : List Span) 0 o34 rfl h35)) ?_
    refine R_sq Try.f50 510 511 (by kernel_rfl) ?_
    refine R_rn Try.f50 510 16 [] [] 3 ⟨[(4, vp 0 0)], [(0, bx 24 [ci (w64 (a1 + o11)), .own 2 0 2 o34.length]), (2, ro 0 35 2 o34.length (rf e_Span o34))]⟩ o0 (by kernel_rfl) (by kernel_rfl) ?_
    obtain rfl := Option.some.inj hm
    refine H_swap 2 0 (by kernel_rfl) ?_
    refine R_ret (by kernel_rfl) ?_
    exact ret_mk (by kernel_rfl) (by kernel_rfl)

end Saw
end Go.SL

namespace Go.SL
namespace Saw
open Go.Proofs
set_option maxHeartbeats 4000000

def ref10_Meet_x (r : Section) : V := va [ci r.Low, .own 0 0 2 r.Rows.length]

def ref10_Meet_o (r : Section) : List (Nat × (Nat × O)) := [(0, ro 0 35 2 r.Rows.length (rf e_Span r.Rows))]

theorem ref10_Meet_f (r : Section) : Frozen (ref10_Meet_o r) := by
  intro i k o h
  unfold ref10_Meet_o at h
  rw [look_cons] at h
  split at h
  · cases h; exact fun _ _ => rfl
  · cases h

def ref10_Meet_L1_S (v3 : Section) (v5 : Section) (l7 : List Span) (l7n : Nat) (x8 : Int) : St :=
  ⟨[(2, vp 0 0), (3, vp 1 0), (4, vp 2 0), (5, vo 3 0 2 l7n), (6, vi x8)], [(0, bx 24 [ci v3.Low, tl e_Span default v3.Rows]), (1, bx 24 [ci v5.Low, tl e_Span default v5.Rows]), (2, bx 24 [ci 0, .emp]), (3, ro 0 35 2 l7n (rf e_Span l7))]⟩

def ref10_Meet_L1_T (l15 : List Span) : St :=
  ⟨[(4, vp 2 0), (5, vo 3 0 2 l15.length)], [(2, bx 24 [ci 0, .emp]), (3, ro 0 35 2 l15.length (rf e_Span l15))]⟩

set_option maxRecDepth 100000 in
theorem ref10_Meet_L1_ok (E : Env 0) (v3 : Section) (v5 : Section) : ∀ (n : Nat) (l7 : List Span) (l7n : Nat) (x8 : Int) (res : (List Span)), l7.length = l7n → ref10_Meet_L1 v3 v5 n l7 x8 = some res → HL (kx E 39 0) (nd Try.f32 500) (loopQ0 0 (fun o => ref10_Meet_L1_T o) res) n (ref10_Meet_L1_S v3 v5 l7 l7n x8) := by
  intro n
  induction n with
  | zero =>
    intro l7 l7n x8 res hl0 hm
    cases hm
  | succ n ih =>
    intro l7 l7n x8 res hl0 hm
    subst hl0
    refine HL_succ ?_
    refine R_sq Try.f32 1000 1001 (by kernel_rfl) ?_
    refine R_sq Try.f32 2000 2001 (by kernel_rfl) ?_
    refine R_rn Try.f32 2000 5 [] [] 4 ⟨[(2, vp 0 0), (3, vp 1 0), (4, vp 2 0), (5, vo 3 0 2 l7.length), (6, vi x8), (14, vb (decide (x8 < 60)))], [(0, bx 24 [ci v3.Low, tl e_Span default v3.Rows]), (1, bx 24 [ci v5.Low, tl e_Span default v5.Rows]), (2, bx 24 [ci 0, .emp]), (3, ro 0 35 2 l7.length (rf e_Span l7))]⟩ o0 (by kernel_rfl) (by kernel_rfl) ?_
    refine R_cn Try.f32 (.tmp 14) 4002 4003 (by kernel_rfl) (decide (x8 < 60)) (by kernel_rfl) (fun b9 => ?_) (fun b9 => ?_)
    · replace hm := bif_t b9 hm
      refine R_skip (by kernel_rfl) ?_
      refine R_sq Try.f32 2002 2003 (by kernel_rfl) ?_
      refine R_bk Try.f32 1 4004 (by kernel_rfl) ?_
      refine R_sq Try.f32 8008 8009 (by kernel_rfl) ?_
      obtain ⟨v10, h11, hm⟩ := bind_s hm
      obtain ⟨v12, h13, hm⟩ := bind_s hm
      refine R_dr Try.f32 8008 7 [] [(2, dex (cen [] [] 4 0 (ref10_Row_x v10) (ref10_Row_o v10) [17, 18] [])), (5, dex (cen [] [] 4 0 (ref10_Row_x v12) (ref10_Row_o v12) [20, 21] []))] [] [0, 0, 3, 0, 0, 31, 0, 0, 255, 511] 4 ⟨[(2, vp 0 0), (3, vp 1 0), (4, vp 2 0), (5, vo 3 0 2 l7.length), (6, vi x8), (7, vp 4 0), (8, vp 5 0)], [(0, bx 24 [ci v3.Low, tl e_Span default v3.Rows]), (1, bx 24 [ci v5.Low, tl e_Span default v5.Rows]), (2, bx 24 [ci 0, .emp]), (3, ro 0 35 2 l7.length (rf e_Span l7)), (4, bx 35 [ci v10.A, ci v10.B]), (5, bx 35 [ci v12.A, ci v12.B])]⟩ (o1 (And.intro (callS (K := (kx E 39 0)) ⟨[(17, va [ci v3.Low, tl e_Span default v3.Rows]), (18, vi x8)], []⟩ (opAt (rg Try.f32 8008) 2) [] [] 4 o0 rfl (ref10_Row_ok v3 x8 v10 h11) (.inl rfl) (by kernel_rfl)) (callS (K := (kx E 39 0)) ⟨[(20, va [ci v5.Low, tl e_Span default v5.Rows]), (21, vi x8)], []⟩ (opAt (rg Try.f32 8008) 5) [] [] 4 o0 rfl (ref10_Row_ok v5 x8 v12 h13) (.inl rfl) (by kernel_rfl)))) (by kernel_rfl) (by kernel_rfl) ?_
      obtain ⟨g14, hm⟩ := bif_n hm
      refine R_rn Try.f32 8009 8 [(12, drw 6 0 (rf e_Span ([(Span.mk (imax v10.A v12.A) (imin v10.B v12.B))] : List Span))), (13, drw 3 1 (rf e_Span (l7 ++ ([(Span.mk (imax v10.A v12.A) (imin v10.B v12.B))] : List Span))))] [] 6 ⟨[(2, vp 0 0), (3, vp 1 0), (4, vp 2 0), (5, vo 3 1 2 (l7.length + 1)), (6, vi x8)], [(0, bx 24 [ci v3.Low, tl e_Span default v3.Rows]), (1, bx 24 [ci v5.Low, tl e_Span default v5.Rows]), (2, bx 24 [ci 0, .emp]), (3, ro 1 35 2 (l7.length + 1) (rf e_Span (l7 ++ ([(Span.mk (imax v10.A v12.A) (imin v10.B v12.B))] : List Span))))]⟩ (o1 (And.intro (litP e_Span default 2 (fun _ => rfl) ([(Span.mk (imax v10.A v12.A) (imin v10.B v12.B))] : List Span) 1 rfl) (apP e_Span default l7 ([(Span.mk (imax v10.A v12.A) (imin v10.B v12.B))] : List Span) l7.length 1 2 16 (1 ≤ 1) (Nat.le_refl _) rfl rfl (fun _ => rfl) (room_of g14)))) (by kernel_rfl) (by kernel_rfl) ?_
      refine R_rn Try.f32 2003 6 [] [] 7 ⟨[(2, vp 0 0), (3, vp 1 0), (4, vp 2 0), (5, vo 3 1 2 (l7.length + 1)), (6, vi (w64 (x8 + 1)))], [(0, bx 24 [ci v3.Low, tl e_Span default v3.Rows]), (1, bx 24 [ci v5.Low, tl e_Span default v5.Rows]), (2, bx 24 [ci 0, .emp]), (3, ro 1 35 2 (l7.length + 1) (rf e_Span (l7 ++ ([(Span.mk (imax v10.A v12.A) (imin v10.B v12.B))] : List Span))))]⟩ o0 (by kernel_rfl) (by kernel_rfl) ?_
      exact HL_enter (ref10_Meet_L1_S v3 v5 (l7 ++ ([(Span.mk (imax v10.A v12.A) (imin v10.B v12.B))] : List Span)) (l7.length + 1) (w64 (x8 + 1))) (by kernel_rfl) (by kernel_rfl) (ih (l7 ++ ([(Span.mk (imax v10.A v12.A) (imin v10.B v12.B))] : List Span)) (l7.length + 1) (w64 (x8 + 1)) _ (len_app rfl rfl) hm)
    · replace hm := bif_f b9 hm
      refine R_exit 0 (by kernel_rfl) ?_
      obtain rfl := Option.some.inj hm
      exact L0_mk (by kernel_rfl) (by kernel_rfl)

set_option maxRecDepth 100000 in
theorem ref10_Meet_ok (a1 : Section) (a2 : Section) (r : Section) (hm : ref10_Meet a1 a2 = some r) : CtX Try.prog globs 32 0 0 [.agg [ci a1.Low, tl e_Span default a1.Rows], .agg [ci a2.Low, tl e_Span default a2.Rows]] [] (ref10_Meet_x r) (ref10_Meet_o r) := by
  unfold ref10_Meet at hm
  refine CtX_of_E (fn := Try.f32) (c := nd Try.f32 1) (nt := 39) (by kernel_rfl) (by kernel_rfl) (by kernel_rfl) (by kernel_rfl) fun E => ?_
  refine R_sq Try.f32 2 3 (by kernel_rfl) ?_
  refine R_rn Try.f32 2 0 [] [] 0 ⟨[(2, vp 0 0), (3, vp 1 0), (4, vp 2 0)], [(0, bx 24 [ci a1.Low, tl e_Span default a1.Rows]), (1, bx 24 [ci a2.Low, tl e_Span default a2.Rows]), (2, bx 24 [ci 0, .emp])]⟩ o0 (by kernel_rfl) (by kernel_rfl) ?_
  refine R_sq Try.f32 6 7 (by kernel_rfl) ?_
  obtain ⟨v3, h4, hm⟩ := bind_s hm
  refine R_rn Try.f32 6 1 [(1, dex (cen [] [] 3 0 (ref10_Valid_x v3) (ref10_Valid_o v3) [9] []))] [] 3 ⟨[(2, vp 0 0), (3, vp 1 0), (4, vp 2 0)], [(0, bx 24 [ci v3.Low, tl e_Span default v3.Rows]), (1, bx 24 [ci a2.Low, tl e_Span default a2.Rows]), (2, bx 24 [ci 0, .emp])]⟩ (o1 (callS (K := (kx E 39 0)) ⟨[(9, va [ci a1.Low, tl e_Span default a1.Rows])], []⟩ (opAt (rg Try.f32 6) 1) [] [] 3 o0 rfl (ref10_Valid_ok a1 v3 h4) (.inl rfl) (by kernel_rfl))) (by kernel_rfl) (by kernel_rfl) ?_
  refine R_sq Try.f32 14 15 (by kernel_rfl) ?_
  obtain ⟨v5, h6, hm⟩ := bind_s hm
  refine R_rn Try.f32 14 2 [(1, dex (cen [] [] 3 0 (ref10_Valid_x v5) (ref10_Valid_o v5) [11] []))] [] 3 ⟨[(2, vp 0 0), (3, vp 1 0), (4, vp 2 0)], [(0, bx 24 [ci v3.Low, tl e_Span default v3.Rows]), (1, bx 24 [ci v5.Low, tl e_Span default v5.Rows]), (2, bx 24 [ci 0, .emp])]⟩ (o1 (callS (K := (kx E 39 0)) ⟨[(11, va [ci a2.Low, tl e_Span default a2.Rows])], []⟩ (opAt (rg Try.f32 14) 1) [] [] 3 o0 rfl (ref10_Valid_ok a2 v5 h6) (.inl rfl) (by kernel_rfl))) (by kernel_rfl) (by kernel_rfl) ?_
  refine R_sq Try.f32 30 31 (by kernel_rfl) ?_
  refine R_rn Try.f32 30 3 [] [] 3 ⟨[(2, vp 0 0), (3, vp 1 0), (4, vp 2 0), (5, vc (.emp))], [(0, bx 24 [ci v3.Low, tl e_Span default v3.Rows]), (1, bx 24 [ci v5.Low, tl e_Span default v5.Rows]), (2, bx 24 [ci 0, .emp])]⟩ o0 (by kernel_rfl) (by kernel_rfl) ?_
  refine R_sq Try.f32 62 63 (by kernel_rfl) ?_
  refine R_sq Try.f32 124 125 (by kernel_rfl) ?_
  refine R_rn Try.f32 124 4 [] [] 3 ⟨[(2, vp 0 0), (3, vp 1 0), (4, vp 2 0), (5, vc (.emp)), (6, vi (-60))], [(0, bx 24 [ci v3.Low, tl e_Span default v3.Rows]), (1, bx 24 [ci v5.Low, tl e_Span default v5.Rows]), (2, bx 24 [ci 0, .emp])]⟩ o0 (by kernel_rfl) (by kernel_rfl) ?_
  refine H_fin [.own 5 3 35 2 (rf e_Span ([] : List Span))] ⟨[(2, vp 0 0), (3, vp 1 0), (4, vp 2 0), (5, vo 3 0 2 0), (6, vi (-60))], [(0, bx 24 [ci v3.Low, tl e_Span default v3.Rows]), (1, bx 24 [ci v5.Low, tl e_Span default v5.Rows]), (2, bx 24 [ci 0, .emp]), (3, ro 0 35 2 0 (rf e_Span ([] : List Span)))]⟩ o0 (by kernel_rfl) ?_
  obtain ⟨o16, h17, hm⟩ := bind_s hm
  refine R_loop0 (nd Try.f32 500) 0 (by kernel_rfl) FUEL (fun o => ref10_Meet_L1_T o) o16 (HL_enter (ref10_Meet_L1_S v3 v5 ([] : List Span) 0 (-60)) (by kernel_rfl) (by kernel_rfl) (ref10_Meet_L1_ok E v3 v5 FUEL ([] : List Span) 0 (-60) o16 rfl h17)) ?_
  refine R_sq Try.f32 126 127 (by kernel_rfl) ?_
  obtain ⟨v18, h19, hm⟩ := bind_s hm
  refine R_rn Try.f32 126 9 [(1, dex (cen [] [] 4 0 (ref10_Dropped_x v18) (ref10_Dropped_o v18) [37] [3]))] [] 4 ⟨[(4, vp 2 0)], [(2, bx 24 [ci v18.Low, .own 4 0 2 v18.Rows.length]), (4, ro 0 35 2 v18.Rows.length (rf e_Span v18.Rows))]⟩ (o1 (callS (K := (kx E 39 0)) (b := false) ⟨[(37, vo 3 0 2 o16.length)], [(3, ro 0 35 2 o16.length (rf e_Span o16))]⟩ (opAt (rg Try.f32 126) 1) [] [] 4 (o1 (Nat.le_refl o16.length)) rfl (ref10_Dropped_ok (-60) o16 v18 h19) (.inr ⟨(by kernel_rfl), ref10_Dropped_f v18⟩) (by kernel_rfl))) (by kernel_rfl) (by kernel_rfl) ?_
  obtain rfl := Option.some.inj hm
  refine H_swap 4 0 (by kernel_rfl) ?_
  refine R_ret (by kernel_rfl) ?_
  exact ret_mk (by kernel_rfl) (by kernel_rfl)

end Saw
end Go.SL

namespace Go.SL
namespace Saw
open Go.Proofs
set_option maxHeartbeats 4000000

def ref10_Equal_x (r : Bool) : V := vb r

def ref10_Equal_o (r : Bool) : List (Nat × (Nat × O)) := []

theorem ref10_Equal_f (r : Bool) : Frozen (ref10_Equal_o r) := by
  intro i k o h
  unfold ref10_Equal_o at h
  cases h

def ref10_Equal_L2_S (v3 : Section) (v5 : Section) (x10 : Int) : St :=
  ⟨[(2, vp 0 0), (3, vp 1 0), (5, vi x10)], [(0, bx 24 [ci v3.Low, tl e_Span default v3.Rows]), (1, bx 24 [ci v5.Low, tl e_Span default v5.Rows])]⟩

def ref10_Equal_L2_T : St :=
  ⟨[], []⟩

def ref10_Equal_k1_S (v3 : Section) (v5 : Section) (x8 : Bool) : St :=
  ⟨[(2, vp 0 0), (3, vp 1 0), (23, vb x8)], [(0, bx 24 [ci v3.Low, tl e_Span default v3.Rows]), (1, bx 24 [ci v5.Low, tl e_Span default v5.Rows])]⟩

set_option maxRecDepth 100000 in
theorem ref10_Equal_L2_ok (E : Env 0) (v3 : Section) (v5 : Section) : ∀ (n : Nat) (x10 : Int) (res : Bool ⊕ Unit), ref10_Equal_L2 v3 v5 n x10 = some res → HL (kx E 42 0) (nd Try.f34 500) (loopQ 0 (fun o => ref10_Equal_L2_T) (fun v st => RetQ Try.prog Try.f34 (ref10_Equal_x v) (ref10_Equal_o v) .ret st) res) n (ref10_Equal_L2_S v3 v5 x10) := by
  intro n
  induction n with
  | zero =>
    intro x10 res hm
    cases hm
  | succ n ih =>
    intro x10 res hm
    refine HL_succ ?_
    refine R_sq Try.f34 1000 1001 (by kernel_rfl) ?_
    refine R_sq Try.f34 2000 2001 (by kernel_rfl) ?_
    refine R_rn Try.f34 2000 6 [] [] 2 ⟨[(2, vp 0 0), (3, vp 1 0), (5, vi x10), (28, vb (decide (x10 < ((v3.Rows.length : Nat) : Int))))], [(0, bx 24 [ci v3.Low, tl e_Span default v3.Rows]), (1, bx 24 [ci v5.Low, tl e_Span default v5.Rows])]⟩ o0 (by kernel_rfl) (by kernel_rfl) ?_
    refine R_cn Try.f34 (.tmp 28) 4002 4003 (by kernel_rfl) (decide (x10 < ((v3.Rows.length : Nat) : Int))) (by kernel_rfl) (fun b11 => ?_) (fun b11 => ?_)
    · replace hm := bif_t b11 hm
      refine R_skip (by kernel_rfl) ?_
      refine R_sq Try.f34 2002 2003 (by kernel_rfl) ?_
      refine R_bk Try.f34 1 4004 (by kernel_rfl) ?_
      refine R_sq Try.f34 8008 8009 (by kernel_rfl) ?_
      obtain ⟨g12, hm⟩ := bif_n hm
      obtain ⟨g13, hm⟩ := bif_n hm
      refine R_dr Try.f34 8008 8 [] [] [] [0, 1, 0, 7, 15, 0, 32, 0, 224, 480, 1023] 2 ⟨[(2, vp 0 0), (3, vp 1 0), (5, vi x10), (41, vb (!((((v3.Rows.getD x10.toNat default).A) == ((v5.Rows.getD x10.toNat default).A)) && ((((v3.Rows.getD x10.toNat default).B) == ((v5.Rows.getD x10.toNat default).B)) && true))))], [(0, bx 24 [ci v3.Low, tl e_Span default v3.Rows]), (1, bx 24 [ci v5.Low, tl e_Span default v5.Rows])]⟩ (o1 (And.intro (inb_of g12) (inb_of g13))) (by kernel_rfl) (by kernel_rfl) ?_
      refine R_cn Try.f34 (.tmp 41) 16018 16019 (by kernel_rfl) (!((((v3.Rows.getD x10.toNat default).A) == ((v5.Rows.getD x10.toNat default).A)) && ((((v3.Rows.getD x10.toNat default).B) == ((v5.Rows.getD x10.toNat default).B)) && true))) (by kernel_rfl) (fun b14 => ?_) (fun b14 => ?_)
      · replace hm := bif_t b14 hm
        refine R_sq Try.f34 32036 32037 (by kernel_rfl) ?_
        refine R_rn Try.f34 32036 9 [] [] 2 ⟨[(4, vb false)], []⟩ o0 (by kernel_rfl) (by kernel_rfl) ?_
        obtain rfl := Option.some.inj hm
        refine R_ret (by kernel_rfl) ?_
        refine L1_ret false ?_
        exact ret_mk (by kernel_rfl) (by kernel_rfl)
      · replace hm := bif_f b14 hm
        refine R_skip (by kernel_rfl) ?_
        refine R_rn Try.f34 2003 7 [] [] 2 ⟨[(2, vp 0 0), (3, vp 1 0), (5, vi (w64 (x10 + 1)))], [(0, bx 24 [ci v3.Low, tl e_Span default v3.Rows]), (1, bx 24 [ci v5.Low, tl e_Span default v5.Rows])]⟩ o0 (by kernel_rfl) (by kernel_rfl) ?_
        exact HL_enter (ref10_Equal_L2_S v3 v5 (w64 (x10 + 1))) (by kernel_rfl) (by kernel_rfl) (ih (w64 (x10 + 1)) _ hm)
    · replace hm := bif_f b11 hm
      refine R_exit 0 (by kernel_rfl) ?_
      obtain rfl := Option.some.inj hm
      exact L1_mk () (by kernel_rfl) (by kernel_rfl)

set_option maxRecDepth 100000 in
theorem ref10_Equal_ok (a1 : Section) (a2 : Section) (r : Bool) (hm : ref10_Equal a1 a2 = some r) : CtX Try.prog globs 34 0 0 [.agg [ci a1.Low, tl e_Span default a1.Rows], .agg [ci a2.Low, tl e_Span default a2.Rows]] [] (ref10_Equal_x r) (ref10_Equal_o r) := by
  unfold ref10_Equal at hm
  refine CtX_of_E (fn := Try.f34) (c := nd Try.f34 1) (nt := 42) (by kernel_rfl) (by kernel_rfl) (by kernel_rfl) (by kernel_rfl) fun E => ?_
  refine R_sq Try.f34 2 3 (by kernel_rfl) ?_
  refine R_rn Try.f34 2 0 [] [] 0 ⟨[(2, vp 0 0), (3, vp 1 0)], [(0, bx 24 [ci a1.Low, tl e_Span default a1.Rows]), (1, bx 24 [ci a2.Low, tl e_Span default a2.Rows])]⟩ o0 (by kernel_rfl) (by kernel_rfl) ?_
  refine R_sq Try.f34 6 7 (by kernel_rfl) ?_
  obtain ⟨v3, h4, hm⟩ := bind_s hm
  refine R_rn Try.f34 6 1 [(1, dex (cen [] [] 2 0 (ref10_Valid_x v3) (ref10_Valid_o v3) [6] []))] [] 2 ⟨[(2, vp 0 0), (3, vp 1 0)], [(0, bx 24 [ci v3.Low, tl e_Span default v3.Rows]), (1, bx 24 [ci a2.Low, tl e_Span default a2.Rows])]⟩ (o1 (callS (K := (kx E 42 0)) ⟨[(6, va [ci a1.Low, tl e_Span default a1.Rows])], []⟩ (opAt (rg Try.f34 6) 1) [] [] 2 o0 rfl (ref10_Valid_ok a1 v3 h4) (.inl rfl) (by kernel_rfl))) (by kernel_rfl) (by kernel_rfl) ?_
  refine R_sq Try.f34 14 15 (by kernel_rfl) ?_
  obtain ⟨v5, h6, hm⟩ := bind_s hm
  refine R_rn Try.f34 14 2 [(1, dex (cen [] [] 2 0 (ref10_Valid_x v5) (ref10_Valid_o v5) [8] []))] [] 2 ⟨[(2, vp 0 0), (3, vp 1 0)], [(0, bx 24 [ci v3.Low, tl e_Span default v3.Rows]), (1, bx 24 [ci v5.Low, tl e_Span default v5.Rows])]⟩ (o1 (callS (K := (kx E 42 0)) ⟨[(8, va [ci a2.Low, tl e_Span default a2.Rows])], []⟩ (opAt (rg Try.f34 14) 1) [] [] 2 o0 rfl (ref10_Valid_ok a2 v5 h6) (.inl rfl) (by kernel_rfl))) (by kernel_rfl) (by kernel_rfl) ?_
  refine R_sq Try.f34 30 31 (by kernel_rfl) ?_
  refine R_join (ι := Bool) (nd Try.f34 60) (nd Try.f34 61) (by kernel_rfl) (fun p => ref10_Equal_k1_S v3 v5 p) (fun p => ref10_Equal_k1 v3 v5 p = some r) ?_ ?_
  · rintro x8 hm
    show H _ (ref10_Equal_k1_S v3 v5 x8) (nd Try.f34 61) _
    refine R_cn Try.f34 (.tmp 23) 122 123 (by kernel_rfl) x8 (by kernel_rfl) (fun b9 => ?_) (fun b9 => ?_)
    · replace hm := bif_t b9 hm
      refine R_sq Try.f34 244 245 (by kernel_rfl) ?_
      refine R_rn Try.f34 244 4 [] [] 2 ⟨[(4, vb false)], []⟩ o0 (by kernel_rfl) (by kernel_rfl) ?_
      obtain rfl := Option.some.inj hm
      refine R_ret (by kernel_rfl) ?_
      exact ret_mk (by kernel_rfl) (by kernel_rfl)
    · replace hm := bif_f b9 hm
      refine R_skip (by kernel_rfl) ?_
      refine R_sq Try.f34 62 63 (by kernel_rfl) ?_
      refine R_sq Try.f34 124 125 (by kernel_rfl) ?_
      refine R_rn Try.f34 124 5 [] [] 2 ⟨[(2, vp 0 0), (3, vp 1 0), (5, vi 0)], [(0, bx 24 [ci v3.Low, tl e_Span default v3.Rows]), (1, bx 24 [ci v5.Low, tl e_Span default v5.Rows])]⟩ o0 (by kernel_rfl) (by kernel_rfl) ?_
      obtain ⟨u17, h16, hm⟩ := bind_s hm
      refine R_loop1 (nd Try.f34 500) 0 (by kernel_rfl) FUEL (fun o => ref10_Equal_L2_T) (fun v st => RetQ Try.prog Try.f34 (ref10_Equal_x v) (ref10_Equal_o v) .ret st) u17 (HL_enter (ref10_Equal_L2_S v3 v5 0) (by kernel_rfl) (by kernel_rfl) (ref10_Equal_L2_ok E v3 v5 FUEL 0 u17 h16)) ?_ ?_
      · rintro v18 rfl st hr
        obtain rfl := Option.some.inj hm
        exact hr
      · rintro o15 rfl
        replace hm : _ = some r := hm
        refine R_sq Try.f34 126 127 (by kernel_rfl) ?_
        refine R_rn Try.f34 126 10 [] [] 2 ⟨[(4, vb true)], []⟩ o0 (by kernel_rfl) (by kernel_rfl) ?_
        obtain rfl := Option.some.inj hm
        refine R_ret (by kernel_rfl) ?_
        exact ret_mk (by kernel_rfl) (by kernel_rfl)
  · rcases Bool.eq_false_or_eq_true (v3.Low != v5.Low) with b7 | b7
    · replace hm := bif_t b7 hm
      refine R_rn Try.f34 60 3 [(5, dfx true)] [] 2 ⟨[(2, vp 0 0), (3, vp 1 0), (23, vb true)], [(0, bx 24 [ci v3.Low, tl e_Span default v3.Rows]), (1, bx 24 [ci v5.Low, tl e_Span default v5.Rows])]⟩ (o1 b7) (by kernel_rfl) (by kernel_rfl) ?_
      exact J_mk (true) hm (by kernel_rfl) (by kernel_rfl)
    · replace hm := bif_f b7 hm
      refine R_rn Try.f34 60 3 [(5, dfx false)] [] 2 ⟨[(2, vp 0 0), (3, vp 1 0), (23, vb (((v3.Rows.length : Nat) : Int) != ((v5.Rows.length : Nat) : Int)))], [(0, bx 24 [ci v3.Low, tl e_Span default v3.Rows]), (1, bx 24 [ci v5.Low, tl e_Span default v5.Rows])]⟩ (o1 b7) (by kernel_rfl) (by kernel_rfl) ?_
      exact J_mk (((v3.Rows.length : Nat) : Int) != ((v5.Rows.length : Nat) : Int)) hm (by kernel_rfl) (by kernel_rfl)

end Saw
end Go.SL
