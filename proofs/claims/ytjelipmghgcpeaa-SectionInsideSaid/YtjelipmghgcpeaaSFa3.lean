import Derived.Test.YtjelipmghgcpeaaSBase
import Derived.Test.YtjelipmghgcpeaaSFa2
import Derived.Test.YtjelipmghgcpeaaSFa1
set_option linter.unusedVariables false
set_option linter.unusedSimpArgs false
namespace Go.SL
namespace Saw
open Go.Proofs
set_option maxHeartbeats 4000000

def poly_Bounds_x (r : Rect) : V := va [ci r.X.A, ci r.X.B, ci r.Y.A, ci r.Y.B]

def poly_Bounds_o (r : Rect) : List (Nat × (Nat × O)) := []

theorem poly_Bounds_f (r : Rect) : Frozen (poly_Bounds_o r) := by
  intro i k o h
  unfold poly_Bounds_o at h
  cases h

def poly_Bounds_L1_S (a1 : List Point) (x4 : Int) (x5 : Rect) : St :=
  ⟨[(2, vp 0 0), (3, vp 1 0), (29, vc (tl e_Point default a1)), (30, vi ((a1.length : Nat) : Int)), (31, vi x4)], [(0, bx 37 [ci 0, ci 0, ci 0, ci 0]), (1, bx 37 [ci x5.X.A, ci x5.X.B, ci x5.Y.A, ci x5.Y.B])]⟩

def poly_Bounds_L1_T (x8 : Rect) : St :=
  ⟨[(2, vp 0 0), (3, vp 1 0)], [(0, bx 37 [ci 0, ci 0, ci 0, ci 0]), (1, bx 37 [ci x8.X.A, ci x8.X.B, ci x8.Y.A, ci x8.Y.B])]⟩

set_option maxRecDepth 100000 in
theorem poly_Bounds_L1_ok (E : Env 0) (a1 : List Point) : ∀ (n : Nat) (x4 : Int) (x5 : Rect) (res : Rect), poly_Bounds_L1 a1 n x4 x5 = some res → HL (kx E 65 0) (nd Try.f79 244) (loopQ0 0 (fun o => poly_Bounds_L1_T o) res) n (poly_Bounds_L1_S a1 x4 x5) := by
  intro n
  induction n with
  | zero =>
    intro x4 x5 res hm
    cases hm
  | succ n ih =>
    intro x4 x5 res hm
    refine HL_succ ?_
    refine R_sq Try.f79 488 489 (by kernel_rfl) ?_
    refine R_rn Try.f79 488 5 [] [] 2 ⟨[(2, vp 0 0), (3, vp 1 0), (29, vc (tl e_Point default a1)), (30, vi ((a1.length : Nat) : Int)), (31, vi x4), (32, vb (decide (x4 < ((a1.length : Nat) : Int))))], [(0, bx 37 [ci 0, ci 0, ci 0, ci 0]), (1, bx 37 [ci x5.X.A, ci x5.X.B, ci x5.Y.A, ci x5.Y.B])]⟩ o0 (by kernel_rfl) (by kernel_rfl) ?_
    refine R_sq Try.f79 978 979 (by kernel_rfl) ?_
    refine R_cn Try.f79 (.tmp 32) 1956 1957 (by kernel_rfl) (decide (x4 < ((a1.length : Nat) : Int))) (by kernel_rfl) (fun b6 => ?_) (fun b6 => ?_)
    · replace hm := bif_t b6 hm
      refine R_skip (by kernel_rfl) ?_
      refine R_sq Try.f79 1958 1959 (by kernel_rfl) ?_
      refine R_bk Try.f79 1 3916 (by kernel_rfl) ?_
      refine R_sq Try.f79 7832 7833 (by kernel_rfl) ?_
      obtain ⟨g7, hm⟩ := bif_n hm
      refine R_rn Try.f79 7832 6 [] [] 2 ⟨[(2, vp 0 0), (3, vp 1 0), (5, vp 2 0), (29, vc (tl e_Point default a1)), (30, vi ((a1.length : Nat) : Int)), (31, vi x4)], [(0, bx 37 [ci 0, ci 0, ci 0, ci 0]), (1, bx 37 [ci x5.X.A, ci x5.X.B, ci x5.Y.A, ci x5.Y.B]), (2, bx 46 [ci ((a1.getD x4.toNat default).X), ci ((a1.getD x4.toNat default).Y)])]⟩ (o1 (inb_of g7)) (by kernel_rfl) (by kernel_rfl) ?_
      refine R_sq Try.f79 15666 15667 (by kernel_rfl) ?_
      refine R_rn Try.f79 15666 7 [] [] 3 ⟨[(2, vp 0 0), (3, vp 1 0), (5, vp 2 0), (29, vc (tl e_Point default a1)), (30, vi ((a1.length : Nat) : Int)), (31, vi x4)], [(0, bx 37 [ci 0, ci 0, ci 0, ci 0]), (1, bx 37 [ci (imin x5.X.A ((a1.getD x4.toNat default).X)), ci (imax x5.X.B ((a1.getD x4.toNat default).X)), ci x5.Y.A, ci x5.Y.B]), (2, bx 46 [ci ((a1.getD x4.toNat default).X), ci ((a1.getD x4.toNat default).Y)])]⟩ o0 (by kernel_rfl) (by kernel_rfl) ?_
      refine R_rn Try.f79 15667 8 [] [] 3 ⟨[(2, vp 0 0), (3, vp 1 0), (29, vc (tl e_Point default a1)), (30, vi ((a1.length : Nat) : Int)), (31, vi x4)], [(0, bx 37 [ci 0, ci 0, ci 0, ci 0]), (1, bx 37 [ci (imin x5.X.A ((a1.getD x4.toNat default).X)), ci (imax x5.X.B ((a1.getD x4.toNat default).X)), ci (imin x5.Y.A ((a1.getD x4.toNat default).Y)), ci (imax x5.Y.B ((a1.getD x4.toNat default).Y))])]⟩ o0 (by kernel_rfl) (by kernel_rfl) ?_
      refine R_rn Try.f79 1959 9 [] [] 3 ⟨[(2, vp 0 0), (3, vp 1 0), (29, vc (tl e_Point default a1)), (30, vi ((a1.length : Nat) : Int)), (31, vi (w64 (x4 + 1)))], [(0, bx 37 [ci 0, ci 0, ci 0, ci 0]), (1, bx 37 [ci (imin x5.X.A ((a1.getD x4.toNat default).X)), ci (imax x5.X.B ((a1.getD x4.toNat default).X)), ci (imin x5.Y.A ((a1.getD x4.toNat default).Y)), ci (imax x5.Y.B ((a1.getD x4.toNat default).Y))])]⟩ o0 (by kernel_rfl) (by kernel_rfl) ?_
      exact HL_enter (poly_Bounds_L1_S a1 (w64 (x4 + 1)) (Rect.mk (Span.mk (imin x5.X.A ((a1.getD x4.toNat default).X)) (imax x5.X.B ((a1.getD x4.toNat default).X))) (Span.mk (imin x5.Y.A ((a1.getD x4.toNat default).Y)) (imax x5.Y.B ((a1.getD x4.toNat default).Y))))) (by kernel_rfl) (by kernel_rfl) (ih (w64 (x4 + 1)) (Rect.mk (Span.mk (imin x5.X.A ((a1.getD x4.toNat default).X)) (imax x5.X.B ((a1.getD x4.toNat default).X))) (Span.mk (imin x5.Y.A ((a1.getD x4.toNat default).Y)) (imax x5.Y.B ((a1.getD x4.toNat default).Y)))) _ hm)
    · replace hm := bif_f b6 hm
      refine R_exit 0 (by kernel_rfl) ?_
      obtain rfl := Option.some.inj hm
      exact L0_mk (by kernel_rfl) (by kernel_rfl)

set_option maxRecDepth 100000 in
theorem poly_Bounds_ok (a1 : List Point) (r : Rect) (hm : poly_Bounds a1 = some r) : CtX Try.prog globs 79 0 0 [.one (tl e_Point default a1)] [] (poly_Bounds_x r) (poly_Bounds_o r) := by
  unfold poly_Bounds at hm
  refine CtX_of_E (fn := Try.f79) (c := nd Try.f79 1) (nt := 65) (by kernel_rfl) (by kernel_rfl) (by kernel_rfl) (by kernel_rfl) fun E => ?_
  refine R_sq Try.f79 2 3 (by kernel_rfl) ?_
  refine R_rn Try.f79 2 0 [] [] 0 ⟨[(0, vc (tl e_Point default a1)), (2, vp 0 0)], [(0, bx 37 [ci 0, ci 0, ci 0, ci 0])]⟩ o0 (by kernel_rfl) (by kernel_rfl) ?_
  refine R_sq Try.f79 6 7 (by kernel_rfl) ?_
  refine R_sq Try.f79 12 13 (by kernel_rfl) ?_
  refine R_rn Try.f79 12 1 [] [] 1 ⟨[(0, vc (tl e_Point default a1)), (2, vp 0 0), (8, vb (((a1.length : Nat) : Int) == 0))], [(0, bx 37 [ci 0, ci 0, ci 0, ci 0])]⟩ o0 (by kernel_rfl) (by kernel_rfl) ?_
  refine R_cn Try.f79 (.tmp 8) 26 27 (by kernel_rfl) (((a1.length : Nat) : Int) == 0) (by kernel_rfl) (fun b2 => ?_) (fun b2 => ?_)
  · replace hm := bif_t b2 hm
    refine R_sq Try.f79 52 53 (by kernel_rfl) ?_
    refine R_rn Try.f79 52 2 [] [] 1 ⟨[(2, vp 0 0)], [(0, bx 37 [ci 0, ci 0, ci 0, ci 0])]⟩ o0 (by kernel_rfl) (by kernel_rfl) ?_
    obtain rfl := Option.some.inj hm
    refine R_ret (by kernel_rfl) ?_
    exact ret_mk (by kernel_rfl) (by kernel_rfl)
  · replace hm := bif_f b2 hm
    refine R_skip (by kernel_rfl) ?_
    refine R_sq Try.f79 14 15 (by kernel_rfl) ?_
    obtain ⟨g3, hm⟩ := bif_n hm
    refine R_dr Try.f79 14 3 [] [] [] [0, 1, 3, 7, 0, 16, 48, 112, 255, 0, 512, 1536, 3584, 0, 8192, 24576, 57344, 130560, 262143, 0, 1048575] 1 ⟨[(0, vc (tl e_Point default a1)), (2, vp 0 0), (3, vp 1 0)], [(0, bx 37 [ci 0, ci 0, ci 0, ci 0]), (1, bx 37 [ci ((a1.getD (0 : Int).toNat default).X), ci ((a1.getD (0 : Int).toNat default).X), ci ((a1.getD (0 : Int).toNat default).Y), ci ((a1.getD (0 : Int).toNat default).Y)])]⟩ (o1 (And.intro (inb_of g3) (And.intro (inb_of g3) (And.intro (inb_of g3) (inb_of g3))))) (by kernel_rfl) (by kernel_rfl) ?_
    refine R_sq Try.f79 30 31 (by kernel_rfl) ?_
    refine R_sq Try.f79 60 61 (by kernel_rfl) ?_
    refine R_rn Try.f79 60 4 [] [] 2 ⟨[(2, vp 0 0), (3, vp 1 0), (29, vc (tl e_Point default a1)), (30, vi ((a1.length : Nat) : Int)), (31, vi 0)], [(0, bx 37 [ci 0, ci 0, ci 0, ci 0]), (1, bx 37 [ci ((a1.getD (0 : Int).toNat default).X), ci ((a1.getD (0 : Int).toNat default).X), ci ((a1.getD (0 : Int).toNat default).Y), ci ((a1.getD (0 : Int).toNat default).Y)])]⟩ o0 (by kernel_rfl) (by kernel_rfl) ?_
    obtain ⟨o9, h10, hm⟩ := bind_s hm
    refine R_loop0 (nd Try.f79 244) 0 (by kernel_rfl) FUEL (fun o => poly_Bounds_L1_T o) o9 (HL_enter (poly_Bounds_L1_S a1 0 (Rect.mk (Span.mk ((a1.getD (0 : Int).toNat default).X) ((a1.getD (0 : Int).toNat default).X)) (Span.mk ((a1.getD (0 : Int).toNat default).Y) ((a1.getD (0 : Int).toNat default).Y)))) (by kernel_rfl) (by kernel_rfl) (poly_Bounds_L1_ok E a1 FUEL 0 (Rect.mk (Span.mk ((a1.getD (0 : Int).toNat default).X) ((a1.getD (0 : Int).toNat default).X)) (Span.mk ((a1.getD (0 : Int).toNat default).Y) ((a1.getD (0 : Int).toNat default).Y))) o9 h10)) ?_
    refine R_sq Try.f79 62 63 (by kernel_rfl) ?_
    refine R_rn Try.f79 62 10 [] [] 2 ⟨[(2, vp 0 0)], [(0, bx 37 [ci o9.X.A, ci o9.X.B, ci o9.Y.A, ci o9.Y.B])]⟩ o0 (by kernel_rfl) (by kernel_rfl) ?_
    obtain rfl := Option.some.inj hm
    refine R_ret (by kernel_rfl) ?_
    exact ret_mk (by kernel_rfl) (by kernel_rfl)

end Saw
end Go.SL

namespace Go.SL
namespace Saw
open Go.Proofs
set_option maxHeartbeats 4000000

def poly_floor_x (r : Int) : V := vi r

def poly_floor_o (r : Int) : List (Nat × (Nat × O)) := []

theorem poly_floor_f (r : Int) : Frozen (poly_floor_o r) := by
  intro i k o h
  unfold poly_floor_o at h
  cases h

def poly_floor_k1_S (x5 : Int) : St :=
  ⟨[(5, vi x5)], []⟩

set_option maxRecDepth 100000 in
theorem poly_floor_ok (a1 : Int) (a2 : Int) (r : Int) (hm : poly_floor a1 a2 = some r) : CtX Try.prog globs 81 0 0 [.one (ci a1), .one (ci a2)] [] (poly_floor_x r) (poly_floor_o r) := by
  unfold poly_floor at hm
  refine CtX_of_E (fn := Try.f81) (c := nd Try.f81 1) (nt := 16) (by kernel_rfl) (by kernel_rfl) (by kernel_rfl) (by kernel_rfl) fun E => ?_
  refine R_sq Try.f81 2 3 (by kernel_rfl) ?_
  refine R_rn Try.f81 2 0 [] [] 0 ⟨[(0, vi a1), (1, vi a2)], []⟩ o0 (by kernel_rfl) (by kernel_rfl) ?_
  refine R_sq Try.f81 6 7 (by kernel_rfl) ?_
  obtain ⟨g3, hm⟩ := bif_n hm
  refine R_rn Try.f81 6 1 [] [] 0 ⟨[(0, vi a1), (1, vi a2), (5, vi (w64 (Int.tdiv a1 a2)))], []⟩ (o1 (nz_of g3)) (by kernel_rfl) (by kernel_rfl) ?_
  refine R_join (ι := Int) (nd Try.f81 14) (nd Try.f81 15) (by kernel_rfl) (fun p => poly_floor_k1_S p) (fun p => poly_floor_k1 p = some r) ?_ ?_
  · rintro x5 hm
    show H _ (poly_floor_k1_S x5) (nd Try.f81 15) _
    refine R_sq Try.f81 30 31 (by kernel_rfl) ?_
    refine R_rn Try.f81 30 4 [] [] 0 ⟨[(4, vi x5)], []⟩ o0 (by kernel_rfl) (by kernel_rfl) ?_
    obtain rfl := Option.some.inj hm
    refine R_ret (by kernel_rfl) ?_
    exact ret_mk (by kernel_rfl) (by kernel_rfl)
  · refine R_sq Try.f81 28 29 (by kernel_rfl) ?_
    refine R_rn Try.f81 28 2 [] [] 0 ⟨[(5, vi (w64 (Int.tdiv a1 a2))), (12, vb (decide ((Int.tmod a1 a2) < 0)))], []⟩ (o1 (nz_of g3)) (by kernel_rfl) (by kernel_rfl) ?_
    refine R_cn Try.f81 (.tmp 12) 58 59 (by kernel_rfl) (decide ((Int.tmod a1 a2) < 0)) (by kernel_rfl) (fun b4 => ?_) (fun b4 => ?_)
    · replace hm := bif_t b4 hm
      refine R_rn Try.f81 58 3 [] [] 0 ⟨[(5, vi (w64 ((w64 (Int.tdiv a1 a2)) - 1)))], []⟩ o0 (by kernel_rfl) (by kernel_rfl) ?_
      exact J_mk (w64 ((w64 (Int.tdiv a1 a2)) - 1)) hm (by kernel_rfl) (by kernel_rfl)
    · replace hm := bif_f b4 hm
      refine R_skip (by kernel_rfl) ?_
      exact J_mk (w64 (Int.tdiv a1 a2)) hm (by kernel_rfl) (by kernel_rfl)

end Saw
end Go.SL

namespace Go.SL
namespace Saw
open Go.Proofs
set_option maxHeartbeats 4000000

def poly_Chord_1_x (a1 : Int) (a2 : Rect) (a3 : List Point) (r : Int × Int) : V := .tup [.one (ci r.1), .one (ci r.2)]

def poly_Chord_1_o (a1 : Int) (a2 : Rect) (a3 : List Point) (r : Int × Int) : List (Nat × (Nat × O)) := [(0, bx 37 [ci a2.X.A, ci a2.X.B, ci a2.Y.A, ci a2.Y.B]), (1, bx 29 [.own 2 0 2 a3.length]), (2, ro 0 46 2 a3.length (rf e_Point a3))]

theorem poly_Chord_1_f (a1 : Int) (a2 : Rect) (a3 : List Point) (r : Int × Int) : Frozen (poly_Chord_1_o a1 a2 a3 r) := by
  intro i k o h
  unfold poly_Chord_1_o at h
  rw [look_cons] at h
  split at h
  · cases h; rfl
  · rw [look_cons] at h
    split at h
    · cases h; rfl
    · rw [look_cons] at h
      split at h
      · cases h; exact fun _ _ => rfl
      · cases h

def poly_Chord_1_k4_S (a1 : Int) (a2 : Rect) (a3 : List Point) (x6 : Int) (x23 : Int) (x24 : Int) : St :=
  ⟨[(0, vi a1), (2, vp 1 0), (6, vi x23), (7, vi x24), (17, vo 2 0 2 a3.length), (18, vi ((a3.length : Nat) : Int)), (19, vi x6)], [(0, bx 37 [ci a2.X.A, ci a2.X.B, ci a2.Y.A, ci a2.Y.B]), (1, bx 29 [.own 2 0 2 a3.length]), (2, ro 0 46 2 a3.length (rf e_Point a3))]⟩

def poly_Chord_1_k3_S (a1 : Int) (a2 : Rect) (a3 : List Point) (x4 : Int) (x5 : Int) (x6 : Int) (x19 : Bool) : St :=
  ⟨[(0, vi a1), (2, vp 1 0), (6, vi x4), (7, vi x5), (9, vp 3 0), (10, vp 4 0), (17, vo 2 0 2 a3.length), (18, vi ((a3.length : Nat) : Int)), (19, vi x6), (69, vb x19)], [(0, bx 37 [ci a2.X.A, ci a2.X.B, ci a2.Y.A, ci a2.Y.B]), (1, bx 29 [.own 2 0 2 a3.length]), (2, ro 0 46 2 a3.length (rf e_Point a3)), (3, bx 46 [ci ((a3.getD x6.toNat default).X), ci ((a3.getD x6.toNat default).Y)]), (4, bx 46 [ci ((a3.getD ((Int.tmod (w64 (x6 + 1)) ((a3.length : Nat) : Int)).toNat) default).X), ci ((a3.getD ((Int.tmod (w64 (x6 + 1)) ((a3.length : Nat) : Int)).toNat) default).Y)])]⟩

def poly_Chord_1_k2_S (a1 : Int) (a2 : Rect) (a3 : List Point) (x4 : Int) (x5 : Int) (x6 : Int) (x13 : Bool) : St :=
  ⟨[(0, vi a1), (2, vp 1 0), (6, vi x4), (7, vi x5), (9, vp 3 0), (10, vp 4 0), (17, vo 2 0 2 a3.length), (18, vi ((a3.length : Nat) : Int)), (19, vi x6), (32, vb x13)], [(0, bx 37 [ci a2.X.A, ci a2.X.B, ci a2.Y.A, ci a2.Y.B]), (1, bx 29 [.own 2 0 2 a3.length]), (2, ro 0 46 2 a3.length (rf e_Point a3)), (3, bx 46 [ci ((a3.getD x6.toNat default).X), ci ((a3.getD x6.toNat default).Y)]), (4, bx 46 [ci ((a3.getD ((Int.tmod (w64 (x6 + 1)) ((a3.length : Nat) : Int)).toNat) default).X), ci ((a3.getD ((Int.tmod (w64 (x6 + 1)) ((a3.length : Nat) : Int)).toNat) default).Y)])]⟩

def poly_Chord_1_L1_S (a1 : Int) (a2 : Rect) (a3 : List Point) (x4 : Int) (x5 : Int) (x6 : Int) : St :=
  ⟨[(0, vi a1), (2, vp 1 0), (6, vi x4), (7, vi x5), (17, vo 2 0 2 a3.length), (18, vi ((a3.length : Nat) : Int)), (19, vi x6)], [(0, bx 37 [ci a2.X.A, ci a2.X.B, ci a2.Y.A, ci a2.Y.B]), (1, bx 29 [.own 2 0 2 a3.length]), (2, ro 0 46 2 a3.length (rf e_Point a3))]⟩

def poly_Chord_1_L1_T (a2 : Rect) (a3 : List Point) (x25 : Int) (x26 : Int) : St :=
  ⟨[(6, vi x25), (7, vi x26)], [(0, bx 37 [ci a2.X.A, ci a2.X.B, ci a2.Y.A, ci a2.Y.B]), (1, bx 29 [.own 2 0 2 a3.length]), (2, ro 0 46 2 a3.length (rf e_Point a3))]⟩

set_option maxRecDepth 100000 in
theorem poly_Chord_1_L1_ok (E : Env 3) (a1 : Int) (a2 : Rect) (a3 : List Point) : ∀ (n : Nat) (x4 : Int) (x5 : Int) (x6 : Int) (res : Int × Int), poly_Chord_1_L1 a1 a3 n x4 x5 x6 = some res → HL (kx E 109 2) (nd Try.f80 116) (loopQ0 0 (fun o => poly_Chord_1_L1_T a2 a3 o.1 o.2) res) n (poly_Chord_1_L1_S a1 a2 a3 x4 x5 x6) := by
  intro n
  induction n with
  | zero =>
    intro x4 x5 x6 res hm
    cases hm
  | succ n ih =>
    intro x4 x5 x6 res hm
    refine HL_succ ?_
    refine R_sq Try.f80 232 233 (by kernel_rfl) ?_
    refine R_rn Try.f80 232 3 [] [] 3 ⟨[(0, vi a1), (2, vp 1 0), (6, vi x4), (7, vi x5), (17, vo 2 0 2 a3.length), (18, vi ((a3.length : Nat) : Int)), (19, vi x6), (20, vb (decide (x6 < ((a3.length : Nat) : Int))))], [(0, bx 37 [ci a2.X.A, ci a2.X.B, ci a2.Y.A, ci a2.Y.B]), (1, bx 29 [.own 2 0 2 a3.length]), (2, ro 0 46 2 a3.length (rf e_Point a3))]⟩ o0 (by kernel_rfl) (by kernel_rfl) ?_
    refine R_sq Try.f80 466 467 (by kernel_rfl) ?_
    refine R_cn Try.f80 (.tmp 20) 932 933 (by kernel_rfl) (decide (x6 < ((a3.length : Nat) : Int))) (by kernel_rfl) (fun b7 => ?_) (fun b7 => ?_)
    · replace hm := bif_t b7 hm
      refine R_skip (by kernel_rfl) ?_
      refine R_join (ι := Int × Int) (nd Try.f80 934) (nd Try.f80 935) (by kernel_rfl) (fun p => poly_Chord_1_k4_S a1 a2 a3 x6 p.1 p.2) (fun p => poly_Chord_1_k4 x6 (poly_Chord_1_L1 a1 a3 n) p.1 p.2 = some res) ?_ ?_
      · rintro ⟨x23, x24⟩ hm
        show H _ (poly_Chord_1_k4_S a1 a2 a3 x6 x23 x24) (nd Try.f80 935) _
        refine R_rn Try.f80 935 10 [] [] 5 ⟨[(0, vi a1), (2, vp 1 0), (6, vi x23), (7, vi x24), (17, vo 2 0 2 a3.length), (18, vi ((a3.length : Nat) : Int)), (19, vi (w64 (x6 + 1)))], [(0, bx 37 [ci a2.X.A, ci a2.X.B, ci a2.Y.A, ci a2.Y.B]), (1, bx 29 [.own 2 0 2 a3.length]), (2, ro 0 46 2 a3.length (rf e_Point a3))]⟩ o0 (by kernel_rfl) (by kernel_rfl) ?_
        exact HL_enter (poly_Chord_1_L1_S a1 a2 a3 x23 x24 (w64 (x6 + 1))) (by kernel_rfl) (by kernel_rfl) (ih x23 x24 (w64 (x6 + 1)) _ hm)
      · refine R_bk Try.f80 1 1868 (by kernel_rfl) ?_
        refine R_sq Try.f80 3736 3737 (by kernel_rfl) ?_
        obtain ⟨g8, hm⟩ := bif_n hm
        refine R_rn Try.f80 3736 4 [] [] 3 ⟨[(0, vi a1), (2, vp 1 0), (6, vi x4), (7, vi x5), (8, vi x6), (9, vp 3 0), (17, vo 2 0 2 a3.length), (18, vi ((a3.length : Nat) : Int)), (19, vi x6)], [(0, bx 37 [ci a2.X.A, ci a2.X.B, ci a2.Y.A, ci a2.Y.B]), (1, bx 29 [.own 2 0 2 a3.length]), (2, ro 0 46 2 a3.length (rf e_Point a3)), (3, bx 46 [ci ((a3.getD x6.toNat default).X), ci ((a3.getD x6.toNat default).Y)])]⟩ (o1 (And.intro (inb_of g8) (toNat_lt (inb_of g8)))) (by kernel_rfl) (by kernel_rfl) ?_
        refine R_sq Try.f80 7474 7475 (by kernel_rfl) ?_
        obtain ⟨g9, hm⟩ := bif_n hm
        obtain ⟨g10, hm⟩ := bif_n hm
        refine R_dr Try.f80 7474 5 [] [] [] [0, 0, 2, 0, 8, 30, 63, 127, 0, 511] 4 ⟨[(0, vi a1), (2, vp 1 0), (6, vi x4), (7, vi x5), (9, vp 3 0), (10, vp 4 0), (17, vo 2 0 2 a3.length), (18, vi ((a3.length : Nat) : Int)), (19, vi x6)], [(0, bx 37 [ci a2.X.A, ci a2.X.B, ci a2.Y.A, ci a2.Y.B]), (1, bx 29 [.own 2 0 2 a3.length]), (2, ro 0 46 2 a3.length (rf e_Point a3)), (3, bx 46 [ci ((a3.getD x6.toNat default).X), ci ((a3.getD x6.toNat default).Y)]), (4, bx 46 [ci ((a3.getD ((Int.tmod (w64 (x6 + 1)) ((a3.length : Nat) : Int)).toNat) default).X), ci ((a3.getD ((Int.tmod (w64 (x6 + 1)) ((a3.length : Nat) : Int)).toNat) default).Y)])]⟩ (o1 (And.intro (nz_of g9) (And.intro (inb_of g10) (toNat_lt (inb_of g10))))) (by kernel_rfl) (by kernel_rfl) ?_
        refine R_bk Try.f80 2 14950 (by kernel_rfl) ?_
        refine R_join (ι := Bool) (nd Try.f80 29900) (nd Try.f80 29901) (by kernel_rfl) (fun p => poly_Chord_1_k2_S a1 a2 a3 x4 x5 x6 p) (fun p => poly_Chord_1_k2 a1 a3 x4 x5 x6 (poly_Chord_1_L1 a1 a3 n) p = some res) ?_ ?_
        · rintro x13 hm
          show H _ (poly_Chord_1_k2_S a1 a2 a3 x4 x5 x6 x13) (nd Try.f80 29901) _
          refine R_cn Try.f80 (.tmp 32) 59802 59803 (by kernel_rfl) x13 (by kernel_rfl) (fun b14 => ?_) (fun b14 => ?_)
          · replace hm := bif_t b14 hm
            obtain ⟨v15, h16, hm⟩ := bind_s hm
            refine R_dr Try.f80 59802 7 [] [(17, dex (cen [] [] 5 0 (poly_floor_x v15) (poly_floor_o v15) [61, 66] []))] [] [0, 1, 0, 4, 0, 16, 60, 0, 0, 256, 896, 2044, 0, 4096, 0, 16384, 61440, 131068, 262143, 524287] 5 ⟨[(0, vi a1), (2, vp 1 0), (6, vi x4), (7, vi (w64 (((a3.getD x6.toNat default).X) + v15))), (17, vo 2 0 2 a3.length), (18, vi ((a3.length : Nat) : Int)), (19, vi x6)], [(0, bx 37 [ci a2.X.A, ci a2.X.B, ci a2.Y.A, ci a2.Y.B]), (1, bx 29 [.own 2 0 2 a3.length]), (2, ro 0 46 2 a3.length (rf e_Point a3))]⟩ (o1 (callS (K := (kx E 109 2)) ⟨[(61, vi (w64 ((w64 (((a3.getD ((Int.tmod (w64 (x6 + 1)) ((a3.length : Nat) : Int)).toNat) default).X) - ((a3.getD x6.toNat default).X))) * (w64 (a1 - ((a3.getD x6.toNat default).Y)))))), (66, vi (w64 (((a3.getD ((Int.tmod (w64 (x6 + 1)) ((a3.length : Nat) : Int)).toNat) default).Y) - ((a3.getD x6.toNat default).Y))))], []⟩ (opAt (rg Try.f80 59802) 17) [] [] 5 o0 rfl (poly_floor_ok (w64 ((w64 (((a3.getD ((Int.tmod (w64 (x6 + 1)) ((a3.length : Nat) : Int)).toNat) default).X) - ((a3.getD x6.toNat default).X))) * (w64 (a1 - ((a3.getD x6.toNat default).Y))))) (w64 (((a3.getD ((Int.tmod (w64 (x6 + 1)) ((a3.length : Nat) : Int)).toNat) default).Y) - ((a3.getD x6.toNat default).Y))) v15 h16) (.inl rfl) (by kernel_rfl))) (by kernel_rfl) (by kernel_rfl) ?_
            exact J_mk (x4, w64 (((a3.getD x6.toNat default).X) + v15)) hm (by kernel_rfl) (by kernel_rfl)
          · replace hm := bif_f b14 hm
            refine R_join (ι := Bool) (nd Try.f80 119606) (nd Try.f80 119607) (by kernel_rfl) (fun p => poly_Chord_1_k3_S a1 a2 a3 x4 x5 x6 p) (fun p => poly_Chord_1_k3 a1 a3 x4 x5 x6 (poly_Chord_1_L1 a1 a3 n) p = some res) ?_ ?_
            · rintro x19 hm
              show H _ (poly_Chord_1_k3_S a1 a2 a3 x4 x5 x6 x19) (nd Try.f80 119607) _
              refine R_cn Try.f80 (.tmp 69) 239214 239215 (by kernel_rfl) x19 (by kernel_rfl) (fun b20 => ?_) (fun b20 => ?_)
              · replace hm := bif_t b20 hm
                obtain ⟨v21, h22, hm⟩ := bind_s hm
                refine R_dr Try.f80 239214 9 [] [(17, dex (cen [] [] 5 0 (poly_floor_x v21) (poly_floor_o v21) [98, 103] []))] [] [0, 1, 0, 4, 0, 16, 60, 0, 0, 256, 896, 2044, 0, 4096, 0, 16384, 61440, 131068, 262143, 524287] 5 ⟨[(0, vi a1), (2, vp 1 0), (6, vi (w64 (((a3.getD ((Int.tmod (w64 (x6 + 1)) ((a3.length : Nat) : Int)).toNat) default).X) - v21))), (7, vi x5), (17, vo 2 0 2 a3.length), (18, vi ((a3.length : Nat) : Int)), (19, vi x6)], [(0, bx 37 [ci a2.X.A, ci a2.X.B, ci a2.Y.A, ci a2.Y.B]), (1, bx 29 [.own 2 0 2 a3.length]), (2, ro 0 46 2 a3.length (rf e_Point a3))]⟩ (o1 (callS (K := (kx E 109 2)) ⟨[(98, vi (w64 ((w64 (((a3.getD ((Int.tmod (w64 (x6 + 1)) ((a3.length : Nat) : Int)).toNat) default).X) - ((a3.getD x6.toNat default).X))) * (w64 (a1 - ((a3.getD ((Int.tmod (w64 (x6 + 1)) ((a3.length : Nat) : Int)).toNat) default).Y)))))), (103, vi (w64 (((a3.getD x6.toNat default).Y) - ((a3.getD ((Int.tmod (w64 (x6 + 1)) ((a3.length : Nat) : Int)).toNat) default).Y))))], []⟩ (opAt (rg Try.f80 239214) 17) [] [] 5 o0 rfl (poly_floor_ok (w64 ((w64 (((a3.getD ((Int.tmod (w64 (x6 + 1)) ((a3.length : Nat) : Int)).toNat) default).X) - ((a3.getD x6.toNat default).X))) * (w64 (a1 - ((a3.getD ((Int.tmod (w64 (x6 + 1)) ((a3.length : Nat) : Int)).toNat) default).Y))))) (w64 (((a3.getD x6.toNat default).Y) - ((a3.getD ((Int.tmod (w64 (x6 + 1)) ((a3.length : Nat) : Int)).toNat) default).Y))) v21 h22) (.inl rfl) (by kernel_rfl))) (by kernel_rfl) (by kernel_rfl) ?_
                exact J_mk (w64 (((a3.getD ((Int.tmod (w64 (x6 + 1)) ((a3.length : Nat) : Int)).toNat) default).X) - v21), x5) hm (by kernel_rfl) (by kernel_rfl)
              · replace hm := bif_f b20 hm
                refine R_skip (by kernel_rfl) ?_
                exact J_mk (x4, x5) hm (by kernel_rfl) (by kernel_rfl)
            · rcases Bool.eq_false_or_eq_true (decide (((a3.getD x6.toNat default).Y) > ((a3.getD ((Int.tmod (w64 (x6 + 1)) ((a3.length : Nat) : Int)).toNat) default).Y))) with b17 | b17
              · replace hm := bif_t b17 hm
                rcases Bool.eq_false_or_eq_true (decide (((a3.getD ((Int.tmod (w64 (x6 + 1)) ((a3.length : Nat) : Int)).toNat) default).Y) ≤ a1)) with b18 | b18
                · replace hm := bif_t b18 hm
                  refine R_rn Try.f80 119606 8 [(5, dfx true), (11, dfx true)] [] 5 ⟨[(0, vi a1), (2, vp 1 0), (6, vi x4), (7, vi x5), (9, vp 3 0), (10, vp 4 0), (17, vo 2 0 2 a3.length), (18, vi ((a3.length : Nat) : Int)), (19, vi x6), (69, vb (decide (a1 ≤ ((a3.getD x6.toNat default).Y)))), (76, vp 4 1), (77, vi ((a3.getD ((Int.tmod (w64 (x6 + 1)) ((a3.length : Nat) : Int)).toNat) default).Y)), (78, vi a1), (79, vb (decide (((a3.getD ((Int.tmod (w64 (x6 + 1)) ((a3.length : Nat) : Int)).toNat) default).Y) ≤ a1))), (82, vi a1), (83, vp 3 1), (84, vi ((a3.getD x6.toNat default).Y)), (85, vb (decide (a1 ≤ ((a3.getD x6.toNat default).Y))))], [(0, bx 37 [ci a2.X.A, ci a2.X.B, ci a2.Y.A, ci a2.Y.B]), (1, bx 29 [.own 2 0 2 a3.length]), (2, ro 0 46 2 a3.length (rf e_Point a3)), (3, bx 46 [ci ((a3.getD x6.toNat default).X), ci ((a3.getD x6.toNat default).Y)]), (4, bx 46 [ci ((a3.getD ((Int.tmod (w64 (x6 + 1)) ((a3.length : Nat) : Int)).toNat) default).X), ci ((a3.getD ((Int.tmod (w64 (x6 + 1)) ((a3.length : Nat) : Int)).toNat) default).Y)])]⟩ (o1 (And.intro b17 b18)) (by kernel_rfl) (by kernel_rfl) ?_
                  exact J_mk (decide (a1 ≤ ((a3.getD x6.toNat default).Y))) hm (by kernel_rfl) (by kernel_rfl)
                · replace hm := bif_f b18 hm
                  refine R_rn Try.f80 119606 8 [(5, dfx true), (11, dfx false)] [] 5 ⟨[(0, vi a1), (2, vp 1 0), (6, vi x4), (7, vi x5), (9, vp 3 0), (10, vp 4 0), (17, vo 2 0 2 a3.length), (18, vi ((a3.length : Nat) : Int)), (19, vi x6), (69, vb false), (76, vp 4 1), (77, vi ((a3.getD ((Int.tmod (w64 (x6 + 1)) ((a3.length : Nat) : Int)).toNat) default).Y)), (78, vi a1), (79, vb (decide (((a3.getD ((Int.tmod (w64 (x6 + 1)) ((a3.length : Nat) : Int)).toNat) default).Y) ≤ a1)))], [(0, bx 37 [ci a2.X.A, ci a2.X.B, ci a2.Y.A, ci a2.Y.B]), (1, bx 29 [.own 2 0 2 a3.length]), (2, ro 0 46 2 a3.length (rf e_Point a3)), (3, bx 46 [ci ((a3.getD x6.toNat default).X), ci ((a3.getD x6.toNat default).Y)]), (4, bx 46 [ci ((a3.getD ((Int.tmod (w64 (x6 + 1)) ((a3.length : Nat) : Int)).toNat) default).X), ci ((a3.getD ((Int.tmod (w64 (x6 + 1)) ((a3.length : Nat) : Int)).toNat) default).Y)])]⟩ (o1 (And.intro b17 b18)) (by kernel_rfl) (by kernel_rfl) ?_
                  exact J_mk (false) hm (by kernel_rfl) (by kernel_rfl)
              · replace hm := bif_f b17 hm
                refine R_rn Try.f80 119606 8 [(5, dfx false)] [] 5 ⟨[(0, vi a1), (2, vp 1 0), (6, vi x4), (7, vi x5), (9, vp 3 0), (10, vp 4 0), (17, vo 2 0 2 a3.length), (18, vi ((a3.length : Nat) : Int)), (19, vi x6), (69, vb false)], [(0, bx 37 [ci a2.X.A, ci a2.X.B, ci a2.Y.A, ci a2.Y.B]), (1, bx 29 [.own 2 0 2 a3.length]), (2, ro 0 46 2 a3.length (rf e_Point a3)), (3, bx 46 [ci ((a3.getD x6.toNat default).X), ci ((a3.getD x6.toNat default).Y)]), (4, bx 46 [ci ((a3.getD ((Int.tmod (w64 (x6 + 1)) ((a3.length : Nat) : Int)).toNat) default).X), ci ((a3.getD ((Int.tmod (w64 (x6 + 1)) ((a3.length : Nat) : Int)).toNat) default).Y)])]⟩ (o1 b17) (by kernel_rfl) (by kernel_rfl) ?_
                exact J_mk (false) hm (by kernel_rfl) (by kernel_rfl)
        · rcases Bool.eq_false_or_eq_true (decide (((a3.getD x6.toNat default).Y) < ((a3.getD ((Int.tmod (w64 (x6 + 1)) ((a3.length : Nat) : Int)).toNat) default).Y))) with b11 | b11
          · replace hm := bif_t b11 hm
            rcases Bool.eq_false_or_eq_true (decide (((a3.getD x6.toNat default).Y) ≤ a1)) with b12 | b12
            · replace hm := bif_t b12 hm
              refine R_rn Try.f80 29900 6 [(5, dfx true), (11, dfx true)] [] 5 ⟨[(0, vi a1), (2, vp 1 0), (6, vi x4), (7, vi x5), (9, vp 3 0), (10, vp 4 0), (17, vo 2 0 2 a3.length), (18, vi ((a3.length : Nat) : Int)), (19, vi x6), (32, vb (decide (a1 ≤ ((a3.getD ((Int.tmod (w64 (x6 + 1)) ((a3.length : Nat) : Int)).toNat) default).Y)))), (39, vp 3 1), (40, vi ((a3.getD x6.toNat default).Y)), (41, vi a1), (42, vb (decide (((a3.getD x6.toNat default).Y) ≤ a1))), (45, vi a1), (46, vp 4 1), (47, vi ((a3.getD ((Int.tmod (w64 (x6 + 1)) ((a3.length : Nat) : Int)).toNat) default).Y)), (48, vb (decide (a1 ≤ ((a3.getD ((Int.tmod (w64 (x6 + 1)) ((a3.length : Nat) : Int)).toNat) default).Y))))], [(0, bx 37 [ci a2.X.A, ci a2.X.B, ci a2.Y.A, ci a2.Y.B]), (1, bx 29 [.own 2 0 2 a3.length]), (2, ro 0 46 2 a3.length (rf e_Point a3)), (3, bx 46 [ci ((a3.getD x6.toNat default).X), ci ((a3.getD x6.toNat default).Y)]), (4, bx 46 [ci ((a3.getD ((Int.tmod (w64 (x6 + 1)) ((a3.length : Nat) : Int)).toNat) default).X), ci ((a3.getD ((Int.tmod (w64 (x6 + 1)) ((a3.length : Nat) : Int)).toNat) default).Y)])]⟩ (o1 (And.intro b11 b12)) (by kernel_rfl) (by kernel_rfl) ?_
              exact J_mk (decide (a1 ≤ ((a3.getD ((Int.tmod (w64 (x6 + 1)) ((a3.length : Nat) : Int)).toNat) default).Y))) hm (by kernel_rfl) (by kernel_rfl)
            · replace hm := bif_f b12 hm
              refine R_rn Try.f80 29900 6 [(5, dfx true), (11, dfx false)] [] 5 ⟨[(0, vi a1), (2, vp 1 0), (6, vi x4), (7, vi x5), (9, vp 3 0), (10, vp 4 0), (17, vo 2 0 2 a3.length), (18, vi ((a3.length : Nat) : Int)), (19, vi x6), (32, vb false), (39, vp 3 1), (40, vi ((a3.getD x6.toNat default).Y)), (41, vi a1), (42, vb (decide (((a3.getD x6.toNat default).Y) ≤ a1)))], [(0, bx 37 [ci a2.X.A, ci a2.X.B, ci a2.Y.A, ci a2.Y.B]), (1, bx 29 [.own 2 0 2 a3.length]), (2, ro 0 46 2 a3.length (rf e_Point a3)), (3, bx 46 [ci ((a3.getD x6.toNat default).X), ci ((a3.getD x6.toNat default).Y)]), (4, bx 46 [ci ((a3.getD ((Int.tmod (w64 (x6 + 1)) ((a3.length : Nat) : Int)).toNat) default).X), ci ((a3.getD ((Int.tmod (w64 (x6 + 1)) ((a3.length : Nat) : Int)).toNat) default).Y)])]⟩ (o1 (And.intro b11 b12)) (by kernel_rfl) (by kernel_rfl) ?_
              exact J_mk (false) hm (by kernel_rfl) (by kernel_rfl)
          · replace hm := bif_f b11 hm
            refine R_rn Try.f80 29900 6 [(5, dfx false)] [] 5 ⟨[(0, vi a1), (2, vp 1 0), (6, vi x4), (7, vi x5), (9, vp 3 0), (10, vp 4 0), (17, vo 2 0 2 a3.length), (18, vi ((a3.length : Nat) : Int)), (19, vi x6), (32, vb false)], [(0, bx 37 [ci a2.X.A, ci a2.X.B, ci a2.Y.A, ci a2.Y.B]), (1, bx 29 [.own 2 0 2 a3.length]), (2, ro 0 46 2 a3.length (rf e_Point a3)), (3, bx 46 [ci ((a3.getD x6.toNat default).X), ci ((a3.getD x6.toNat default).Y)]), (4, bx 46 [ci ((a3.getD ((Int.tmod (w64 (x6 + 1)) ((a3.length : Nat) : Int)).toNat) default).X), ci ((a3.getD ((Int.tmod (w64 (x6 + 1)) ((a3.length : Nat) : Int)).toNat) default).Y)])]⟩ (o1 b11) (by kernel_rfl) (by kernel_rfl) ?_
            exact J_mk (false) hm (by kernel_rfl) (by kernel_rfl)
    · replace hm := bif_f b7 hm
      refine R_exit 0 (by kernel_rfl) ?_
      obtain rfl := Option.some.inj hm
      exact L0_mk (by kernel_rfl) (by kernel_rfl)

set_option maxRecDepth 100000 in
theorem poly_Chord_1_ok (a1 : Int) (a2 : Rect) (a3 : List Point) (r : Int × Int) (hm : poly_Chord_1 a1 a2 a3 = some r) : CtX Try.prog globs 80 3 2 [.one (ci a1), .one (.bptr 0 0 0), .one (.bptr 1 0 0)] [(0, bx 37 [ci a2.X.A, ci a2.X.B, ci a2.Y.A, ci a2.Y.B]), (1, bx 29 [.own 2 0 2 a3.length]), (2, ro 0 46 2 a3.length (rf e_Point a3))] (poly_Chord_1_x a1 a2 a3 r) (poly_Chord_1_o a1 a2 a3 r) := by
  unfold poly_Chord_1 at hm
  refine CtX_of_E (fn := Try.f80) (c := nd Try.f80 1) (nt := 109) (by kernel_rfl) (by kernel_rfl) (by kernel_rfl) (by kernel_rfl) fun E => ?_
  refine R_sq Try.f80 2 3 (by kernel_rfl) ?_
  refine R_rn Try.f80 2 0 [] [] 3 ⟨[(0, vi a1), (1, vp 0 0), (2, vp 1 0)], [(0, bx 37 [ci a2.X.A, ci a2.X.B, ci a2.Y.A, ci a2.Y.B]), (1, bx 29 [.own 2 0 2 a3.length]), (2, ro 0 46 2 a3.length (rf e_Point a3))]⟩ o0 (by kernel_rfl) (by kernel_rfl) ?_
  refine R_sq Try.f80 6 7 (by kernel_rfl) ?_
  refine R_dr Try.f80 6 1 [] [] [] [0, 1, 3, 0, 8, 24, 7, 127] 3 ⟨[(0, vi a1), (2, vp 1 0), (6, vi a2.X.A), (7, vi a2.X.B)], [(0, bx 37 [ci a2.X.A, ci a2.X.B, ci a2.Y.A, ci a2.Y.B]), (1, bx 29 [.own 2 0 2 a3.length]), (2, ro 0 46 2 a3.length (rf e_Point a3))]⟩ o0 (by kernel_rfl) (by kernel_rfl) ?_
  refine R_sq Try.f80 14 15 (by kernel_rfl) ?_
  refine R_sq Try.f80 28 29 (by kernel_rfl) ?_
  refine R_rn Try.f80 28 2 [] [] 3 ⟨[(0, vi a1), (2, vp 1 0), (6, vi a2.X.A), (7, vi a2.X.B), (17, vo 2 0 2 a3.length), (18, vi ((a3.length : Nat) : Int)), (19, vi 0)], [(0, bx 37 [ci a2.X.A, ci a2.X.B, ci a2.Y.A, ci a2.Y.B]), (1, bx 29 [.own 2 0 2 a3.length]), (2, ro 0 46 2 a3.length (rf e_Point a3))]⟩ o0 (by kernel_rfl) (by kernel_rfl) ?_
  obtain ⟨o27, h28, hm⟩ := bind_s hm
  refine R_loop0 (nd Try.f80 116) 0 (by kernel_rfl) FUEL (fun o => poly_Chord_1_L1_T a2 a3 o.1 o.2) o27 (HL_enter (poly_Chord_1_L1_S a1 a2 a3 a2.X.A a2.X.B 0) (by kernel_rfl) (by kernel_rfl) (poly_Chord_1_L1_ok E a1 a2 a3 FUEL a2.X.A a2.X.B 0 o27 h28)) ?_
  refine R_sq Try.f80 30 31 (by kernel_rfl) ?_
  refine R_rn Try.f80 30 11 [] [] 3 ⟨[(4, vi o27.1), (5, vi o27.2)], [(0, bx 37 [ci a2.X.A, ci a2.X.B, ci a2.Y.A, ci a2.Y.B]), (1, bx 29 [.own 2 0 2 a3.length]), (2, ro 0 46 2 a3.length (rf e_Point a3))]⟩ o0 (by kernel_rfl) (by kernel_rfl) ?_
  obtain rfl := Option.some.inj hm
  refine R_ret (by kernel_rfl) ?_
  exact ret_mk (by kernel_rfl) (by kernel_rfl)

end Saw
end Go.SL

namespace Go.SL
namespace Saw
open Go.Proofs
set_option maxHeartbeats 4000000

def poly_Chord_x (r : Span) : V := va [ci r.A, ci r.B]

def poly_Chord_o (r : Span) : List (Nat × (Nat × O)) := []

theorem poly_Chord_f (r : Span) : Frozen (poly_Chord_o r) := by
  intro i k o h
  unfold poly_Chord_o at h
  cases h

def poly_Chord_k1_S (a2 : Int) (a3 : Int) (v4 : (List Point)) (v6 : Rect) (x11 : Bool) : St :=
  ⟨[(1, vi a2), (2, vi a3), (6, vp 0 0), (7, vp 2 0), (8, vp 3 0), (40, vb x11)], [(0, bx 35 [ci 0, ci 0]), (1, ro 0 46 2 v4.length (rf e_Point v4)), (2, bx 29 [.own 1 0 2 v4.length]), (3, bx 37 [ci v6.X.A, ci v6.X.B, ci v6.Y.A, ci v6.Y.B])]⟩

set_option maxRecDepth 100000 in
theorem poly_Chord_ok (a1 : List Point) (a2 : Int) (a3 : Int) (r : Span) (hm : poly_Chord a1 a2 a3 = some r) : CtX Try.prog globs 48 0 0 [.one (tl e_Point default a1), .one (ci a2), .one (ci a3)] [] (poly_Chord_x r) (poly_Chord_o r) := by
  unfold poly_Chord at hm
  refine CtX_of_E (fn := Try.f48) (c := nd Try.f48 1) (nt := 69) (by kernel_rfl) (by kernel_rfl) (by kernel_rfl) (by kernel_rfl) fun E => ?_
  refine R_sq Try.f48 2 3 (by kernel_rfl) ?_
  refine R_rn Try.f48 2 0 [] [] 0 ⟨[(0, vc (tl e_Point default a1)), (1, vi a2), (2, vi a3), (6, vp 0 0)], [(0, bx 35 [ci 0, ci 0])]⟩ o0 (by kernel_rfl) (by kernel_rfl) ?_
  refine R_sq Try.f48 6 7 (by kernel_rfl) ?_
  obtain ⟨v4, h5, hm⟩ := bind_s hm
  refine R_rn Try.f48 6 1 [(1, dex (cen [] [] 1 0 (poly_Hull_x v4) (poly_Hull_o v4) [15] []))] [] 1 ⟨[(1, vi a2), (2, vi a3), (6, vp 0 0), (7, vp 2 0)], [(0, bx 35 [ci 0, ci 0]), (1, ro 0 46 2 v4.length (rf e_Point v4)), (2, bx 29 [.own 1 0 2 v4.length])]⟩ (o1 (callS (K := (kx E 69 0)) ⟨[(15, vc (tl e_Point default a1))], []⟩ (opAt (rg Try.f48 6) 1) [] [] 1 o0 rfl (poly_Hull_ok a1 v4 h5) (.inl rfl) (by kernel_rfl))) (by kernel_rfl) (by kernel_rfl) ?_
  refine R_sq Try.f48 14 15 (by kernel_rfl) ?_
  obtain ⟨v6, h7, hm⟩ := bind_s hm
  refine R_rn Try.f48 14 2 [(1, dex (cen [] [] 3 0 (poly_Bounds_x v6) (poly_Bounds_o v6) [17] [1]))] [] 3 ⟨[(1, vi a2), (2, vi a3), (6, vp 0 0), (7, vp 2 0), (8, vp 3 0)], [(0, bx 35 [ci 0, ci 0]), (1, ro 0 46 2 v4.length (rf e_Point v4)), (2, bx 29 [.own 1 0 2 v4.length]), (3, bx 37 [ci v6.X.A, ci v6.X.B, ci v6.Y.A, ci v6.Y.B])]⟩ (o1 (callS (K := (kx E 69 0)) (b := false) ⟨[(17, vo 1 0 2 v4.length)], [(1, ro 0 46 2 v4.length (rf e_Point v4))]⟩ (opAt (rg Try.f48 14) 1) [] [] 3 (o1 (Nat.le_refl v4.length)) rfl (poly_Bounds_ok v4 v6 h7) (.inr ⟨(by kernel_rfl), poly_Bounds_f v6⟩) (by kernel_rfl))) (by kernel_rfl) (by kernel_rfl) ?_
  refine R_sq Try.f48 30 31 (by kernel_rfl) ?_
  refine R_join (ι := Bool) (nd Try.f48 60) (nd Try.f48 61) (by kernel_rfl) (fun p => poly_Chord_k1_S a2 a3 v4 v6 p) (fun p => poly_Chord_k1 a2 a3 v4 v6 p = some r) ?_ ?_
  · rintro x11 hm
    show H _ (poly_Chord_k1_S a2 a3 v4 v6 x11) (nd Try.f48 61) _
    refine R_cn Try.f48 (.tmp 40) 122 123 (by kernel_rfl) x11 (by kernel_rfl) (fun b12 => ?_) (fun b12 => ?_)
    · replace hm := bif_t b12 hm
      refine R_sq Try.f48 244 245 (by kernel_rfl) ?_
      refine R_rn Try.f48 244 4 [] [] 4 ⟨[(6, vp 0 0)], [(0, bx 35 [ci 0, ci 0])]⟩ o0 (by kernel_rfl) (by kernel_rfl) ?_
      obtain rfl := Option.some.inj hm
      refine R_ret (by kernel_rfl) ?_
      exact ret_mk (by kernel_rfl) (by kernel_rfl)
    · replace hm := bif_f b12 hm
      refine R_skip (by kernel_rfl) ?_
      refine R_sq Try.f48 62 63 (by kernel_rfl) ?_
      refine R_rn Try.f48 62 5 [] [] 4 ⟨[(1, vi a2), (2, vi a3), (6, vp 0 0), (9, vc (.fn 80 [.bptr 3 0 0, .bptr 2 0 0]))], [(0, bx 35 [ci 0, ci 0]), (1, ro 0 46 2 v4.length (rf e_Point v4)), (2, bx 29 [.own 1 0 2 v4.length]), (3, bx 37 [ci v6.X.A, ci v6.X.B, ci v6.Y.A, ci v6.Y.B])]⟩ o0 (by kernel_rfl) (by kernel_rfl) ?_
      refine R_sq Try.f48 126 127 (by kernel_rfl) ?_
      obtain ⟨v13, h14, hm⟩ := bind_s hm
      refine R_rn Try.f48 126 6 [(2, dex (cen [(3, 0), (2, 0), (1, 0)] [0, 0, 1] 1 2 (poly_Chord_1_x a2 v6 v4 v13) (poly_Chord_1_o a2 v6 v4 v13) [44, 45] [3, 2, 1]))] [] 4 ⟨[(2, vi a3), (6, vp 0 0), (9, vc (.fn 80 [.bptr 3 0 0, .bptr 2 0 0])), (10, vi v13.1), (11, vi v13.2)], [(0, bx 35 [ci 0, ci 0]), (1, ro 1 46 2 v4.length (rf e_Point v4)), (2, bx 29 [.own 1 1 2 v4.length]), (3, bx 37 [ci v6.X.A, ci v6.X.B, ci v6.Y.A, ci v6.Y.B])]⟩ (o1 (callS (K := (kx E 69 0)) ⟨[(44, vc (.fn 80 [.bptr 3 0 0, .bptr 2 0 0])), (45, vi a2)], [(3, bx 37 [ci v6.X.A, ci v6.X.B, ci v6.Y.A, ci v6.Y.B]), (2, bx 29 [.own 1 0 2 v4.length]), (1, ro 0 46 2 v4.length (rf e_Point v4))]⟩ (opAt (rg Try.f48 126) 2) [(3, 0), (2, 0), (1, 0)] [0, 0, 1] 1 o0 rfl (poly_Chord_1_ok a2 v6 v4 v13 h14) (.inl rfl) (by kernel_rfl))) (by kernel_rfl) (by kernel_rfl) ?_
      refine R_sq Try.f48 254 255 (by kernel_rfl) ?_
      obtain ⟨v15, h16, hm⟩ := bind_s hm
      refine R_rn Try.f48 254 7 [(2, dex (cen [(3, 0), (2, 0), (1, 1)] [0, 0, 2] 1 2 (poly_Chord_1_x a3 v6 v4 v15) (poly_Chord_1_o a3 v6 v4 v15) [50, 51] [3, 2, 1]))] [] 4 ⟨[(6, vp 0 0), (10, vi v13.1), (11, vi v13.2), (12, vi v15.1), (13, vi v15.2)], [(0, bx 35 [ci 0, ci 0])]⟩ (o1 (callS (K := (kx E 69 0)) ⟨[(50, vc (.fn 80 [.bptr 3 0 0, .bptr 2 0 0])), (51, vi a3)], [(3, bx 37 [ci v6.X.A, ci v6.X.B, ci v6.Y.A, ci v6.Y.B]), (2, bx 29 [.own 1 1 2 v4.length]), (1, ro 1 46 2 v4.length (rf e_Point v4))]⟩ (opAt (rg Try.f48 254) 2) [(3, 0), (2, 0), (1, 1)] [0, 0, 2] 1 o0 rfl (poly_Chord_1_ok a3 v6 v4 v15 h16) (.inl rfl) (by kernel_rfl))) (by kernel_rfl) (by kernel_rfl) ?_
      refine R_sq Try.f48 510 511 (by kernel_rfl) ?_
      refine R_rn Try.f48 510 8 [] [] 4 ⟨[(6, vp 0 0), (14, vp 4 0)], [(0, bx 35 [ci 0, ci 0]), (4, bx 35 [ci (imax v13.1 v15.1), ci (imin v13.2 v15.2)])]⟩ o0 (by kernel_rfl) (by kernel_rfl) ?_
      refine R_sq Try.f48 1022 1023 (by kernel_rfl) ?_
      refine R_sq Try.f48 2044 2045 (by kernel_rfl) ?_
      refine R_rn Try.f48 2044 9 [] [] 5 ⟨[(6, vp 0 0), (14, vp 4 0), (66, vb (decide ((imax v13.1 v15.1) ≥ (imin v13.2 v15.2))))], [(0, bx 35 [ci 0, ci 0]), (4, bx 35 [ci (imax v13.1 v15.1), ci (imin v13.2 v15.2)])]⟩ o0 (by kernel_rfl) (by kernel_rfl) ?_
      refine R_cn Try.f48 (.tmp 66) 4090 4091 (by kernel_rfl) (decide ((imax v13.1 v15.1) ≥ (imin v13.2 v15.2))) (by kernel_rfl) (fun b17 => ?_) (fun b17 => ?_)
      · replace hm := bif_t b17 hm
        refine R_sq Try.f48 8180 8181 (by kernel_rfl) ?_
        refine R_rn Try.f48 8180 10 [] [] 5 ⟨[(6, vp 0 0)], [(0, bx 35 [ci 0, ci 0])]⟩ o0 (by kernel_rfl) (by kernel_rfl) ?_
        obtain rfl := Option.some.inj hm
        refine R_ret (by kernel_rfl) ?_
        exact ret_mk (by kernel_rfl) (by kernel_rfl)
      · replace hm := bif_f b17 hm
        refine R_skip (by kernel_rfl) ?_
        refine R_sq Try.f48 2046 2047 (by kernel_rfl) ?_
        refine R_rn Try.f48 2046 11 [] [] 5 ⟨[(6, vp 0 0)], [(0, bx 35 [ci (imax v13.1 v15.1), ci (imin v13.2 v15.2)])]⟩ o0 (by kernel_rfl) (by kernel_rfl) ?_
        obtain rfl := Option.some.inj hm
        refine R_ret (by kernel_rfl) ?_
        exact ret_mk (by kernel_rfl) (by kernel_rfl)
  · rcases Bool.eq_false_or_eq_true (((v4.length : Nat) : Int) == 0) with b8 | b8
    · replace hm := bif_t b8 hm
      refine R_rn Try.f48 60 3 [(3, dfx true)] [] 4 ⟨[(1, vi a2), (2, vi a3), (6, vp 0 0), (7, vp 2 0), (8, vp 3 0), (40, vb true)], [(0, bx 35 [ci 0, ci 0]), (1, ro 0 46 2 v4.length (rf e_Point v4)), (2, bx 29 [.own 1 0 2 v4.length]), (3, bx 37 [ci v6.X.A, ci v6.X.B, ci v6.Y.A, ci v6.Y.B])]⟩ (o1 b8) (by kernel_rfl) (by kernel_rfl) ?_
      exact J_mk (true) hm (by kernel_rfl) (by kernel_rfl)
    · replace hm := bif_f b8 hm
      rcases Bool.eq_false_or_eq_true (decide (a2 ≥ a3)) with b9 | b9
      · replace hm := bif_t b9 hm
        refine R_rn Try.f48 60 3 [(3, dfx false), (8, dfx true)] [] 4 ⟨[(1, vi a2), (2, vi a3), (6, vp 0 0), (7, vp 2 0), (8, vp 3 0), (40, vb true)], [(0, bx 35 [ci 0, ci 0]), (1, ro 0 46 2 v4.length (rf e_Point v4)), (2, bx 29 [.own 1 0 2 v4.length]), (3, bx 37 [ci v6.X.A, ci v6.X.B, ci v6.Y.A, ci v6.Y.B])]⟩ (o1 (And.intro b8 b9)) (by kernel_rfl) (by kernel_rfl) ?_
        exact J_mk (true) hm (by kernel_rfl) (by kernel_rfl)
      · replace hm := bif_f b9 hm
        rcases Bool.eq_false_or_eq_true (decide (a2 < v6.Y.A)) with b10 | b10
        · replace hm := bif_t b10 hm
          refine R_rn Try.f48 60 3 [(3, dfx false), (8, dfx false), (15, dfx true)] [] 4 ⟨[(1, vi a2), (2, vi a3), (6, vp 0 0), (7, vp 2 0), (8, vp 3 0), (40, vb true)], [(0, bx 35 [ci 0, ci 0]), (1, ro 0 46 2 v4.length (rf e_Point v4)), (2, bx 29 [.own 1 0 2 v4.length]), (3, bx 37 [ci v6.X.A, ci v6.X.B, ci v6.Y.A, ci v6.Y.B])]⟩ (o1 (And.intro b8 (And.intro b9 b10))) (by kernel_rfl) (by kernel_rfl) ?_
          exact J_mk (true) hm (by kernel_rfl) (by kernel_rfl)
        · replace hm := bif_f b10 hm
          refine R_rn Try.f48 60 3 [(3, dfx false), (8, dfx false), (15, dfx false)] [] 4 ⟨[(1, vi a2), (2, vi a3), (6, vp 0 0), (7, vp 2 0), (8, vp 3 0), (40, vb (decide (a3 > v6.Y.B)))], [(0, bx 35 [ci 0, ci 0]), (1, ro 0 46 2 v4.length (rf e_Point v4)), (2, bx 29 [.own 1 0 2 v4.length]), (3, bx 37 [ci v6.X.A, ci v6.X.B, ci v6.Y.A, ci v6.Y.B])]⟩ (o1 (And.intro b8 (And.intro b9 b10))) (by kernel_rfl) (by kernel_rfl) ?_
          exact J_mk (decide (a3 > v6.Y.B)) hm (by kernel_rfl) (by kernel_rfl)

end Saw
end Go.SL

namespace Go.SL
namespace Saw
open Go.Proofs
set_option maxHeartbeats 4000000

def section_Of_1_x (a1 : Int) (a2 : List Point) (r : Span) : V := va [ci r.A, ci r.B]

def section_Of_1_o (a1 : Int) (a2 : List Point) (r : Span) : List (Nat × (Nat × O)) := [(0, bx 29 [tl e_Point default a2])]

set_option maxRecDepth 100000 in
theorem section_Of_1_ok (a1 : Int) (a2 : List Point) (r : Span) (hm : section_Of_1 a1 a2 = some r) : CtX Try.prog globs 46 1 1 [.one (ci a1), .one (.bptr 0 0 0)] [(0, bx 29 [tl e_Point default a2])] (section_Of_1_x a1 a2 r) (section_Of_1_o a1 a2 r) := by
  unfold section_Of_1 at hm
  refine CtX_of_E (fn := Try.f46) (c := nd Try.f46 1) (nt := 15) (by kernel_rfl) (by kernel_rfl) (by kernel_rfl) (by kernel_rfl) fun E => ?_
  refine R_sq Try.f46 2 3 (by kernel_rfl) ?_
  refine R_rn Try.f46 2 0 [] [] 1 ⟨[(0, vi a1), (1, vp 0 0), (3, vp 1 0)], [(0, bx 29 [tl e_Point default a2]), (1, bx 35 [ci 0, ci 0])]⟩ o0 (by kernel_rfl) (by kernel_rfl) ?_
  refine R_sq Try.f46 6 7 (by kernel_rfl) ?_
  obtain ⟨v3, h4, hm⟩ := bind_s hm
  refine R_rn Try.f46 6 1 [(3, dex (cen [] [] 2 0 (section_heights_x v3) (section_heights_o v3) [5, 7] []))] [] 2 ⟨[(1, vp 0 0), (3, vp 1 0), (4, vp 2 0)], [(0, bx 29 [tl e_Point default a2]), (1, bx 35 [ci 0, ci 0]), (2, bx 35 [ci v3.A, ci v3.B])]⟩ (o1 (callS (K := (kx E 15 1)) ⟨[(5, vi a1), (7, vi (w64 (a1 + 1)))], []⟩ (opAt (rg Try.f46 6) 3) [] [] 2 o0 rfl (section_heights_ok a1 (w64 (a1 + 1)) v3 h4) (.inl rfl) (by kernel_rfl))) (by kernel_rfl) (by kernel_rfl) ?_
  refine R_sq Try.f46 14 15 (by kernel_rfl) ?_
  obtain ⟨v5, h6, hm⟩ := bind_s hm
  refine R_rn Try.f46 14 2 [(5, dex (cen [] [] 3 0 (poly_Chord_x v5) (poly_Chord_o v5) [9, 11, 13] []))] [] 3 ⟨[(3, vp 1 0)], [(0, bx 29 [tl e_Point default a2]), (1, bx 35 [ci v5.A, ci v5.B])]⟩ (o1 (callS (K := (kx E 15 1)) ⟨[(9, vc (tl e_Point default a2)), (11, vi v3.A), (13, vi v3.B)], []⟩ (opAt (rg Try.f46 14) 5) [] [] 3 o0 rfl (poly_Chord_ok a2 v3.A v3.B v5 h6) (.inl rfl) (by kernel_rfl))) (by kernel_rfl) (by kernel_rfl) ?_
  obtain rfl := Option.some.inj hm
  refine R_ret (by kernel_rfl) ?_
  exact ret_mk (by kernel_rfl) (by kernel_rfl)

end Saw
end Go.SL

namespace Go.SL
namespace Saw
open Go.Proofs
set_option maxHeartbeats 4000000

def section_isEmpty_x (r : Bool) : V := vb r

def section_isEmpty_o (r : Bool) : List (Nat × (Nat × O)) := []

theorem section_isEmpty_f (r : Bool) : Frozen (section_isEmpty_o r) := by
  intro i k o h
  unfold section_isEmpty_o at h
  cases h

set_option maxRecDepth 100000 in
theorem section_isEmpty_ok (a1 : Span) (r : Bool) (hm : section_isEmpty a1 = some r) : CtX Try.prog globs 40 0 0 [.agg [ci a1.A, ci a1.B]] [] (section_isEmpty_x r) (section_isEmpty_o r) := by
  unfold section_isEmpty at hm
  refine CtX_of_E (fn := Try.f40) (c := nd Try.f40 1) (nt := 8) (by kernel_rfl) (by kernel_rfl) (by kernel_rfl) (by kernel_rfl) fun E => ?_
  refine R_sq Try.f40 2 3 (by kernel_rfl) ?_
  refine R_rn Try.f40 2 0 [] [] 0 ⟨[(1, vp 0 0)], [(0, bx 35 [ci a1.A, ci a1.B])]⟩ o0 (by kernel_rfl) (by kernel_rfl) ?_
  refine R_sq Try.f40 6 7 (by kernel_rfl) ?_
  refine R_rn Try.f40 6 1 [] [] 1 ⟨[(2, vb (decide (a1.A ≥ a1.B)))], []⟩ o0 (by kernel_rfl) (by kernel_rfl) ?_
  obtain rfl := Option.some.inj hm
  refine R_ret (by kernel_rfl) ?_
  exact ret_mk (by kernel_rfl) (by kernel_rfl)

end Saw
end Go.SL

namespace Go.SL
namespace Saw
open Go.Proofs
set_option maxHeartbeats 4000000

def section_build_x (a1 : List Point) (r : Section) : V := va [ci r.Low, .own 1 0 2 r.Rows.length]

def section_build_o (a1 : List Point) (r : Section) : List (Nat × (Nat × O)) := [(0, bx 29 [tl e_Point default a1]), (1, ro 0 35 2 r.Rows.length (rf e_Span r.Rows))]

def section_build_k3_S (a1 : List Point) (x3 : Int) (x17 : Int) (x18 : Int) (l19 : List Span) (l19n : Nat) : St :=
  ⟨[(0, vc (.fn 46 [.bptr 0 0 0])), (2, vp 1 0), (3, vp 2 0), (4, vi x17), (5, vi x3)], [(0, bx 29 [tl e_Point default a1]), (1, bx 24 [ci 0, .emp]), (2, bx 24 [ci x18, .own 3 0 2 l19n]), (3, ro 0 35 2 l19n (rf e_Span l19))]⟩

def section_build_k2_S (a1 : List Point) (x3 : Int) (l5 : List Span) (v7 : Span) (x13 : Int) : St :=
  ⟨[(0, vc (.fn 46 [.bptr 0 0 0])), (2, vp 1 0), (3, vp 2 0), (5, vi x3), (6, vp 4 0)], [(0, bx 29 [tl e_Point default a1]), (1, bx 24 [ci 0, .emp]), (2, bx 24 [ci x13, .own 3 0 2 l5.length]), (3, ro 0 35 2 l5.length (rf e_Span l5)), (4, bx 35 [ci v7.A, ci v7.B])]⟩

def section_build_L1_S (a1 : List Point) (x2 : Int) (x3 : Int) (x4 : Int) (l5 : List Span) (l5n : Nat) : St :=
  ⟨[(0, vc (.fn 46 [.bptr 0 0 0])), (2, vp 1 0), (3, vp 2 0), (4, vi x2), (5, vi x3)], [(0, bx 29 [tl e_Point default a1]), (1, bx 24 [ci 0, .emp]), (2, bx 24 [ci x4, .own 3 0 2 l5n]), (3, ro 0 35 2 l5n (rf e_Span l5))]⟩

def section_build_L1_T (a1 : List Point) (x20 : Int) (x21 : Int) (l22 : List Span) : St :=
  ⟨[(2, vp 1 0), (3, vp 2 0), (4, vi x20)], [(0, bx 29 [tl e_Point default a1]), (1, bx 24 [ci 0, .emp]), (2, bx 24 [ci x21, .own 3 0 2 l22.length]), (3, ro 0 35 2 l22.length (rf e_Span l22))]⟩

set_option maxRecDepth 100000 in
theorem section_build_L1_ok (E : Env 1) (a1 : List Point) : ∀ (n : Nat) (x2 : Int) (x3 : Int) (x4 : Int) (l5 : List Span) (l5n : Nat) (res : Int × Int × (List Span)), l5.length = l5n → section_build_L1 a1 n x2 x3 x4 l5 = some res → HL (kx E 46 1) (nd Try.f45 244) (loopQ0 0 (fun o => section_build_L1_T a1 o.1 o.2.1 o.2.2) res) n (section_build_L1_S a1 x2 x3 x4 l5 l5n) := by
  intro n
  induction n with
  | zero =>
    intro x2 x3 x4 l5 l5n res hl0 hm
    cases hm
  | succ n ih =>
    intro x2 x3 x4 l5 l5n res hl0 hm
    subst hl0
    refine HL_succ ?_
    refine R_sq Try.f45 488 489 (by kernel_rfl) ?_
    refine R_sq Try.f45 976 977 (by kernel_rfl) ?_
    refine R_rn Try.f45 976 4 [] [] 4 ⟨[(0, vc (.fn 46 [.bptr 0 0 0])), (2, vp 1 0), (3, vp 2 0), (4, vi x2), (5, vi x3), (8, vb (decide (x3 < 60)))], [(0, bx 29 [tl e_Point default a1]), (1, bx 24 [ci 0, .emp]), (2, bx 24 [ci x4, .own 3 0 2 l5.length]), (3, ro 0 35 2 l5.length (rf e_Span l5))]⟩ o0 (by kernel_rfl) (by kernel_rfl) ?_
    refine R_cn Try.f45 (.tmp 8) 1954 1955 (by kernel_rfl) (decide (x3 < 60)) (by kernel_rfl) (fun b6 => ?_) (fun b6 => ?_)
    · replace hm := bif_t b6 hm
      refine R_skip (by kernel_rfl) ?_
      refine R_join (ι := Int × Int × (List Span) × Nat) (nd Try.f45 978) (nd Try.f45 979) (by kernel_rfl) (fun p => section_build_k3_S a1 x3 p.1 p.2.1 p.2.2.1 p.2.2.2) (fun p => p.2.2.1.length = p.2.2.2 ∧ section_build_k3 x3 (section_build_L1 a1 n) p.1 p.2.1 p.2.2.1 = some res) ?_ ?_
      · rintro ⟨x17, x18, l19, l19n⟩ ⟨el19, hm⟩
        replace el19 : l19.length = l19n := el19
        subst el19
        show H _ (section_build_k3_S a1 x3 x17 x18 l19 l19.length) (nd Try.f45 979) _
        refine R_rn Try.f45 979 5 [] [] 6 ⟨[(0, vc (.fn 46 [.bptr 0 0 0])), (2, vp 1 0), (3, vp 2 0), (4, vi x17), (5, vi (w64 (x3 + 1)))], [(0, bx 29 [tl e_Point default a1]), (1, bx 24 [ci 0, .emp]), (2, bx 24 [ci x18, .own 3 0 2 l19.length]), (3, ro 0 35 2 l19.length (rf e_Span l19))]⟩ o0 (by kernel_rfl) (by kernel_rfl) ?_
        exact HL_enter (section_build_L1_S a1 x17 (w64 (x3 + 1)) x18 l19 l19.length) (by kernel_rfl) (by kernel_rfl) (ih x17 (w64 (x3 + 1)) x18 l19 l19.length _ rfl hm)
      · refine R_bk Try.f45 1 1956 (by kernel_rfl) ?_
        refine R_sq Try.f45 3912 3913 (by kernel_rfl) ?_
        obtain ⟨v7, h8, hm⟩ := bind_s hm
        refine R_rn Try.f45 3912 6 [(2, dex (cen [(0, 0)] [0] 3 1 (section_Of_1_x x3 a1 v7) (section_Of_1_o x3 a1 v7) [11, 12] [0]))] [] 4 ⟨[(0, vc (.fn 46 [.bptr 0 0 0])), (2, vp 1 0), (3, vp 2 0), (4, vi x2), (5, vi x3), (6, vp 4 0)], [(0, bx 29 [tl e_Point default a1]), (1, bx 24 [ci 0, .emp]), (2, bx 24 [ci x4, .own 3 0 2 l5.length]), (3, ro 0 35 2 l5.length (rf e_Span l5)), (4, bx 35 [ci v7.A, ci v7.B])]⟩ (o1 (callS (K := (kx E 46 1)) ⟨[(11, vc (.fn 46 [.bptr 0 0 0])), (12, vi x3)], [(0, bx 29 [tl e_Point default a1])]⟩ (opAt (rg Try.f45 3912) 2) [(0, 0)] [0] 3 o0 rfl (section_Of_1_ok x3 a1 v7 h8) (.inl rfl) (by kernel_rfl))) (by kernel_rfl) (by kernel_rfl) ?_
        refine R_bk Try.f45 2 7826 (by kernel_rfl) ?_
        refine R_sq Try.f45 15652 15653 (by kernel_rfl) ?_
        obtain ⟨v9, h10, hm⟩ := bind_s hm
        refine R_rn Try.f45 15652 7 [(1, dex (cen [] [] 5 0 (section_isEmpty_x v9) (section_isEmpty_o v9) [15] []))] [] 5 ⟨[(0, vc (.fn 46 [.bptr 0 0 0])), (2, vp 1 0), (3, vp 2 0), (4, vi x2), (5, vi x3), (6, vp 4 0), (14, vb (!v9))], [(0, bx 29 [tl e_Point default a1]), (1, bx 24 [ci 0, .emp]), (2, bx 24 [ci x4, .own 3 0 2 l5.length]), (3, ro 0 35 2 l5.length (rf e_Span l5)), (4, bx 35 [ci v7.A, ci v7.B])]⟩ (o1 (callS (K := (kx E 46 1)) ⟨[(15, va [ci v7.A, ci v7.B])], []⟩ (opAt (rg Try.f45 15652) 1) [] [] 5 o0 rfl (section_isEmpty_ok v7 v9 h10) (.inl rfl) (by kernel_rfl))) (by kernel_rfl) (by kernel_rfl) ?_
        refine R_cn Try.f45 (.tmp 14) 31306 31307 (by kernel_rfl) (!v9) (by kernel_rfl) (fun b11 => ?_) (fun b11 => ?_)
        · replace hm := bif_t b11 hm
          refine R_join (ι := Int) (nd Try.f45 62612) (nd Try.f45 62613) (by kernel_rfl) (fun p => section_build_k2_S a1 x3 l5 v7 p) (fun p => section_build_k2 x3 l5 (section_build_L1 a1 n) v7 p = some res) ?_ ?_
          · rintro x13 hm
            show H _ (section_build_k2_S a1 x3 l5 v7 x13) (nd Try.f45 62613) _
            refine R_sq Try.f45 125226 125227 (by kernel_rfl) ?_
            obtain ⟨g14, hm⟩ := bif_n hm
            refine R_rn Try.f45 125226 10 [(3, drw 5 0 (rf e_Span ([v7] : List Span))), (4, drw 3 1 (rf e_Span (l5 ++ ([v7] : List Span))))] [] 5 ⟨[(0, vc (.fn 46 [.bptr 0 0 0])), (2, vp 1 0), (3, vp 2 0), (5, vi x3)], [(0, bx 29 [tl e_Point default a1]), (1, bx 24 [ci 0, .emp]), (2, bx 24 [ci x13, .own 3 1 2 (l5.length + 1)]), (3, ro 1 35 2 (l5.length + 1) (rf e_Span (l5 ++ ([v7] : List Span))))]⟩ (o1 (And.intro (litP e_Span default 2 (fun _ => rfl) ([v7] : List Span) 1 rfl) (apP e_Span default l5 ([v7] : List Span) l5.length 1 2 16 (1 ≤ 1) (Nat.le_refl _) rfl rfl (fun _ => rfl) (room_of g14)))) (by kernel_rfl) (by kernel_rfl) ?_
            refine R_rn Try.f45 125227 11 [] [] 6 ⟨[(0, vc (.fn 46 [.bptr 0 0 0])), (2, vp 1 0), (3, vp 2 0), (4, vi (((l5.length + 1) : Nat) : Int)), (5, vi x3)], [(0, bx 29 [tl e_Point default a1]), (1, bx 24 [ci 0, .emp]), (2, bx 24 [ci x13, .own 3 1 2 (l5.length + 1)]), (3, ro 1 35 2 (l5.length + 1) (rf e_Span (l5 ++ ([v7] : List Span))))]⟩ o0 (by kernel_rfl) (by kernel_rfl) ?_
            exact J_mk ((((l5.length + 1) : Nat) : Int), x13, (l5 ++ ([v7] : List Span)), (l5.length + 1)) ⟨(len_app rfl rfl), hm⟩ (by kernel_rfl) (by kernel_rfl)
          · refine R_sq Try.f45 125224 125225 (by kernel_rfl) ?_
            refine R_rn Try.f45 125224 8 [] [] 5 ⟨[(0, vc (.fn 46 [.bptr 0 0 0])), (2, vp 1 0), (3, vp 2 0), (5, vi x3), (6, vp 4 0), (19, vb (x2 == 0))], [(0, bx 29 [tl e_Point default a1]), (1, bx 24 [ci 0, .emp]), (2, bx 24 [ci x4, .own 3 0 2 l5.length]), (3, ro 0 35 2 l5.length (rf e_Span l5)), (4, bx 35 [ci v7.A, ci v7.B])]⟩ o0 (by kernel_rfl) (by kernel_rfl) ?_
            refine R_cn Try.f45 (.tmp 19) 250450 250451 (by kernel_rfl) (x2 == 0) (by kernel_rfl) (fun b12 => ?_) (fun b12 => ?_)
            · replace hm := bif_t b12 hm
              refine R_rn Try.f45 250450 9 [] [] 5 ⟨[(0, vc (.fn 46 [.bptr 0 0 0])), (2, vp 1 0), (3, vp 2 0), (5, vi x3), (6, vp 4 0)], [(0, bx 29 [tl e_Point default a1]), (1, bx 24 [ci 0, .emp]), (2, bx 24 [ci x3, .own 3 0 2 l5.length]), (3, ro 0 35 2 l5.length (rf e_Span l5)), (4, bx 35 [ci v7.A, ci v7.B])]⟩ o0 (by kernel_rfl) (by kernel_rfl) ?_
              exact J_mk (x3) hm (by kernel_rfl) (by kernel_rfl)
            · replace hm := bif_f b12 hm
              refine R_skip (by kernel_rfl) ?_
              exact J_mk (x4) hm (by kernel_rfl) (by kernel_rfl)
        · replace hm := bif_f b11 hm
          refine R_sq Try.f45 62614 62615 (by kernel_rfl) ?_
          refine R_rn Try.f45 62614 12 [] [] 5 ⟨[(0, vc (.fn 46 [.bptr 0 0 0])), (2, vp 1 0), (3, vp 2 0), (4, vi x2), (5, vi x3), (31, vb (decide (x2 > 0)))], [(0, bx 29 [tl e_Point default a1]), (1, bx 24 [ci 0, .emp]), (2, bx 24 [ci x4, .own 3 0 2 l5.length]), (3, ro 0 35 2 l5.length (rf e_Span l5))]⟩ o0 (by kernel_rfl) (by kernel_rfl) ?_
          refine R_cn Try.f45 (.tmp 31) 125230 125231 (by kernel_rfl) (decide (x2 > 0)) (by kernel_rfl) (fun b15 => ?_) (fun b15 => ?_)
          · replace hm := bif_t b15 hm
            obtain ⟨g16, hm⟩ := bif_n hm
            refine R_rn Try.f45 125230 13 [(3, drw 5 0 (rf e_Span ([(Span.mk 0 0)] : List Span))), (4, drw 3 1 (rf e_Span (l5 ++ ([(Span.mk 0 0)] : List Span))))] [] 5 ⟨[(0, vc (.fn 46 [.bptr 0 0 0])), (2, vp 1 0), (3, vp 2 0), (4, vi x2), (5, vi x3)], [(0, bx 29 [tl e_Point default a1]), (1, bx 24 [ci 0, .emp]), (2, bx 24 [ci x4, .own 3 1 2 (l5.length + 1)]), (3, ro 1 35 2 (l5.length + 1) (rf e_Span (l5 ++ ([(Span.mk 0 0)] : List Span))))]⟩ (o1 (And.intro (litP e_Span default 2 (fun _ => rfl) ([(Span.mk 0 0)] : List Span) 1 rfl) (apP e_Span default l5 ([(Span.mk 0 0)] : List Span) l5.length 1 2 16 (1 ≤ 1) (Nat.le_refl _) rfl rfl (fun _ => rfl) (room_of g16)))) (by kernel_rfl) (by kernel_rfl) ?_
            exact J_mk (x2, x4, (l5 ++ ([(Span.mk 0 0)] : List Span)), (l5.length + 1)) ⟨(len_app rfl rfl), hm⟩ (by kernel_rfl) (by kernel_rfl)
          · replace hm := bif_f b15 hm
            refine R_skip (by kernel_rfl) ?_
            exact J_mk (x2, x4, l5, l5.length) ⟨rfl, hm⟩ (by kernel_rfl) (by kernel_rfl)
    · replace hm := bif_f b6 hm
      refine R_exit 0 (by kernel_rfl) ?_
      obtain rfl := Option.some.inj hm
      exact L0_mk (by kernel_rfl) (by kernel_rfl)

set_option maxRecDepth 100000 in
theorem section_build_ok (a1 : List Point) (r : Section) (hm : section_build a1 = some r) : CtX Try.prog globs 45 1 1 [.one (.fn 46 [.bptr 0 0 0])] [(0, bx 29 [tl e_Point default a1])] (section_build_x a1 r) (section_build_o a1 r) := by
  unfold section_build at hm
  refine CtX_of_E (fn := Try.f45) (c := nd Try.f45 1) (nt := 46) (by kernel_rfl) (by kernel_rfl) (by kernel_rfl) (by kernel_rfl) fun E => ?_
  refine R_sq Try.f45 2 3 (by kernel_rfl) ?_
  refine R_rn Try.f45 2 0 [] [] 1 ⟨[(0, vc (.fn 46 [.bptr 0 0 0])), (2, vp 1 0)], [(0, bx 29 [tl e_Point default a1]), (1, bx 24 [ci 0, .emp])]⟩ o0 (by kernel_rfl) (by kernel_rfl) ?_
  refine R_sq Try.f45 6 7 (by kernel_rfl) ?_
  refine R_rn Try.f45 6 1 [] [] 2 ⟨[(0, vc (.fn 46 [.bptr 0 0 0])), (2, vp 1 0), (3, vp 2 0)], [(0, bx 29 [tl e_Point default a1]), (1, bx 24 [ci 0, .emp]), (2, bx 24 [ci 0, .emp])]⟩ o0 (by kernel_rfl) (by kernel_rfl) ?_
  refine R_sq Try.f45 14 15 (by kernel_rfl) ?_
  refine R_rn Try.f45 14 2 [] [] 3 ⟨[(0, vc (.fn 46 [.bptr 0 0 0])), (2, vp 1 0), (3, vp 2 0), (4, vi 0)], [(0, bx 29 [tl e_Point default a1]), (1, bx 24 [ci 0, .emp]), (2, bx 24 [ci 0, .emp])]⟩ o0 (by kernel_rfl) (by kernel_rfl) ?_
  refine R_sq Try.f45 30 31 (by kernel_rfl) ?_
  refine R_sq Try.f45 60 61 (by kernel_rfl) ?_
  refine R_rn Try.f45 60 3 [] [] 3 ⟨[(0, vc (.fn 46 [.bptr 0 0 0])), (2, vp 1 0), (3, vp 2 0), (4, vi 0), (5, vi (-60))], [(0, bx 29 [tl e_Point default a1]), (1, bx 24 [ci 0, .emp]), (2, bx 24 [ci 0, .emp])]⟩ o0 (by kernel_rfl) (by kernel_rfl) ?_
  refine H_fin [.ownB 2 1 3 35 2 (rf e_Span ([] : List Span))] ⟨[(0, vc (.fn 46 [.bptr 0 0 0])), (2, vp 1 0), (3, vp 2 0), (4, vi 0), (5, vi (-60))], [(0, bx 29 [tl e_Point default a1]), (1, bx 24 [ci 0, .emp]), (2, bx 24 [ci 0, .own 3 0 2 0]), (3, ro 0 35 2 0 (rf e_Span ([] : List Span)))]⟩ o0 (by kernel_rfl) ?_
  obtain ⟨o23, h24, hm⟩ := bind_s hm
  refine R_loop0 (nd Try.f45 244) 0 (by kernel_rfl) FUEL (fun o => section_build_L1_T a1 o.1 o.2.1 o.2.2) o23 (HL_enter (section_build_L1_S a1 0 (-60) 0 ([] : List Span) 0) (by kernel_rfl) (by kernel_rfl) (section_build_L1_ok E a1 FUEL 0 (-60) 0 ([] : List Span) 0 o23 rfl h24)) ?_
  refine R_sq Try.f45 62 63 (by kernel_rfl) ?_
  obtain ⟨g25, hm⟩ := bif_n hm
  refine R_rn Try.f45 62 14 [] [.row 3 o23.1.toNat (rf e_Span (o23.2.2.take o23.1.toNat))] 4 ⟨[(2, vp 1 0), (3, vp 2 0)], [(0, bx 29 [tl e_Point default a1]), (1, bx 24 [ci 0, .emp]), (2, bx 24 [ci o23.2.1, .own 3 0 2 o23.1.toNat]), (3, ro 0 35 2 o23.1.toNat (rf e_Span (o23.2.2.take o23.1.toNat)))]⟩ (o1 (And.intro (And.intro (slOk_of g25).2.1 (slOk_of g25).2.2) (tkP e_Span default o23.2.2 o23.2.2.length o23.1.toNat (show o23.1.toNat ≤ o23.2.2.length by have := (slOk_of g25); omega)))) (by kernel_rfl) (by kernel_rfl) ?_
  refine R_sq Try.f45 126 127 (by kernel_rfl) ?_
  refine R_rn Try.f45 126 15 [] [] 4 ⟨[(2, vp 1 0)], [(0, bx 29 [tl e_Point default a1]), (1, bx 24 [ci o23.2.1, .own 3 0 2 o23.1.toNat]), (3, ro 0 35 2 o23.1.toNat (rf e_Span (o23.2.2.take o23.1.toNat)))]⟩ o0 (by kernel_rfl) (by kernel_rfl) ?_
  refine H_fin [.len 3 ((o23.2.2.take o23.1.toNat).length)] ⟨[(2, vp 1 0)], [(0, bx 29 [tl e_Point default a1]), (1, bx 24 [ci o23.2.1, .own 3 0 2 ((o23.2.2.take o23.1.toNat).length)]), (3, ro 0 35 2 ((o23.2.2.take o23.1.toNat).length) (rf e_Span (o23.2.2.take o23.1.toNat)))]⟩ (o1 (And.intro (Eq.symm (show (o23.2.2.take o23.1.toNat).length = o23.1.toNat from (len_take rfl (show o23.1.toNat ≤ o23.2.2.length by have := (slOk_of g25); omega)))) (Eq.symm (show (o23.2.2.take o23.1.toNat).length = o23.1.toNat from (len_take rfl (show o23.1.toNat ≤ o23.2.2.length by have := (slOk_of g25); omega)))))) (by kernel_rfl) ?_
  obtain rfl := Option.some.inj hm
  refine H_swap 3 1 (by kernel_rfl) ?_
  refine R_ret (by kernel_rfl) ?_
  exact ret_mk (by kernel_rfl) (by kernel_rfl)

end Saw
end Go.SL
