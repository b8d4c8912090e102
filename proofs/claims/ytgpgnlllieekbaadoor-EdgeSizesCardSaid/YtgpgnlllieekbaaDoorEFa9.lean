import Derived.Test.YtgpgnlllieekbaaDoorEBase
set_option linter.unusedVariables false
set_option linter.unusedSimpArgs false
namespace Go.SL
namespace Saw
open Go.Proofs
set_option maxHeartbeats 4000000

def cutting_behind_x (r : Int) : V := vi r

def cutting_behind_o (r : Int) : List (Nat × (Nat × O)) := []

theorem cutting_behind_f (r : Int) : Frozen (cutting_behind_o r) := by
  intro i k o h
  unfold cutting_behind_o at h
  cases h

set_option maxRecDepth 100000 in
theorem cutting_behind_ok (a1 : Line) (a2 : Int) (r : Int) (hm : cutting_behind a1 a2 = some r) : CtX Tryd.prog globs 70 0 0 [.agg [ci a1.Len, ci a1.Kerf, ci a1.Pitch, tl e_i64 default a1.Sizes, tl (e_lst e_i64) default a1.Gain, tl e_i64 default a1.Chip, tl e_i64 default a1.Dust], .one (ci a2)] [] (cutting_behind_x r) (cutting_behind_o r) := by
  unfold cutting_behind at hm
  refine CtX_of_E (fn := Tryd.f70) (c := nd Tryd.f70 1) (nt := 16) (by kernel_rfl) (by kernel_rfl) (by kernel_rfl) (by kernel_rfl) fun E => ?_
  refine R_sq Tryd.f70 2 3 (by kernel_rfl) ?_
  refine R_rn Tryd.f70 2 0 [] [] 0 ⟨[(1, vi a2), (2, vp 0 0)], [(0, bx 64 [ci a1.Len, ci a1.Kerf, ci a1.Pitch, tl e_i64 default a1.Sizes, tl (e_lst e_i64) default a1.Gain, tl e_i64 default a1.Chip, tl e_i64 default a1.Dust])]⟩ o0 (by kernel_rfl) (by kernel_rfl) ?_
  refine R_sq Tryd.f70 6 7 (by kernel_rfl) ?_
  refine R_sq Tryd.f70 12 13 (by kernel_rfl) ?_
  refine R_rn Tryd.f70 12 1 [] [] 1 ⟨[(1, vi a2), (2, vp 0 0), (8, vb (a2 == a1.Len))], [(0, bx 64 [ci a1.Len, ci a1.Kerf, ci a1.Pitch, tl e_i64 default a1.Sizes, tl (e_lst e_i64) default a1.Gain, tl e_i64 default a1.Chip, tl e_i64 default a1.Dust])]⟩ o0 (by kernel_rfl) (by kernel_rfl) ?_
  refine R_cn Tryd.f70 (.tmp 8) 26 27 (by kernel_rfl) (a2 == a1.Len) (by kernel_rfl) (fun b3 => ?_) (fun b3 => ?_)
  · replace hm := bif_t b3 hm
    refine R_sq Tryd.f70 52 53 (by kernel_rfl) ?_
    refine R_rn Tryd.f70 52 2 [] [] 1 ⟨[(4, vi (-1))], []⟩ o0 (by kernel_rfl) (by kernel_rfl) ?_
    obtain rfl := Option.some.inj hm
    refine R_ret (by kernel_rfl) ?_
    exact ret_mk (by kernel_rfl) (by kernel_rfl)
  · replace hm := bif_f b3 hm
    refine R_skip (by kernel_rfl) ?_
    refine R_sq Tryd.f70 14 15 (by kernel_rfl) ?_
    refine R_rn Tryd.f70 14 3 [] [] 1 ⟨[(4, vi (imin (w64 (a2 + a1.Kerf)) a1.Len))], []⟩ o0 (by kernel_rfl) (by kernel_rfl) ?_
    obtain rfl := Option.some.inj hm
    refine R_ret (by kernel_rfl) ?_
    exact ret_mk (by kernel_rfl) (by kernel_rfl)

end Saw
end Go.SL

namespace Go.SL
namespace Saw
open Go.Proofs
set_option maxHeartbeats 4000000

def cutting_places_x (r : Int) : V := vi r

def cutting_places_o (r : Int) : List (Nat × (Nat × O)) := []

theorem cutting_places_f (r : Int) : Frozen (cutting_places_o r) := by
  intro i k o h
  unfold cutting_places_o at h
  cases h

set_option maxRecDepth 100000 in
theorem cutting_places_ok (a1 : Line) (a2 : Int) (r : Int) (hm : cutting_places a1 a2 = some r) : CtX Tryd.prog globs 93 0 0 [.agg [ci a1.Len, ci a1.Kerf, ci a1.Pitch, tl e_i64 default a1.Sizes, tl (e_lst e_i64) default a1.Gain, tl e_i64 default a1.Chip, tl e_i64 default a1.Dust], .one (ci a2)] [] (cutting_places_x r) (cutting_places_o r) := by
  unfold cutting_places at hm
  refine CtX_of_E (fn := Tryd.f93) (c := nd Tryd.f93 1) (nt := 11) (by kernel_rfl) (by kernel_rfl) (by kernel_rfl) (by kernel_rfl) fun E => ?_
  refine R_sq Tryd.f93 2 3 (by kernel_rfl) ?_
  refine R_rn Tryd.f93 2 0 [] [] 0 ⟨[(1, vi a2), (2, vp 0 0)], [(0, bx 64 [ci a1.Len, ci a1.Kerf, ci a1.Pitch, tl e_i64 default a1.Sizes, tl (e_lst e_i64) default a1.Gain, tl e_i64 default a1.Chip, tl e_i64 default a1.Dust])]⟩ o0 (by kernel_rfl) (by kernel_rfl) ?_
  refine R_sq Tryd.f93 6 7 (by kernel_rfl) ?_
  refine R_rn Tryd.f93 6 1 [] [] 1 ⟨[(4, vi (imax 0 (w64 ((w64 (a1.Len - a2)) + 1))))], []⟩ o0 (by kernel_rfl) (by kernel_rfl) ?_
  obtain rfl := Option.some.inj hm
  refine R_ret (by kernel_rfl) ?_
  exact ret_mk (by kernel_rfl) (by kernel_rfl)

end Saw
end Go.SL

namespace Go.SL
namespace Saw
open Go.Proofs
set_option maxHeartbeats 4000000

def cutting_measures_x (r : Int) : V := vi r

def cutting_measures_o (r : Int) : List (Nat × (Nat × O)) := []

theorem cutting_measures_f (r : Int) : Frozen (cutting_measures_o r) := by
  intro i k o h
  unfold cutting_measures_o at h
  cases h

def cutting_measures_k3_S (a1 : Line) (x10 : Int) (x14 : Bool) : St :=
  ⟨[(38, vc (tl e_i64 default a1.Sizes)), (39, vi ((a1.Sizes.length : Nat) : Int)), (40, vi x10), (49, vb x14)], []⟩

def cutting_measures_L2_S (a1 : Line) (x10 : Int) : St :=
  ⟨[(38, vc (tl e_i64 default a1.Sizes)), (39, vi ((a1.Sizes.length : Nat) : Int)), (40, vi x10)], []⟩

def cutting_measures_L2_T : St :=
  ⟨[], []⟩

def cutting_measures_k1_S (a1 : Line) (x7 : Bool) : St :=
  ⟨[(1, vp 0 0), (32, vb x7)], [(0, bx 64 [ci a1.Len, ci a1.Kerf, ci a1.Pitch, tl e_i64 default a1.Sizes, tl (e_lst e_i64) default a1.Gain, tl e_i64 default a1.Chip, tl e_i64 default a1.Dust])]⟩

set_option maxRecDepth 100000 in
theorem cutting_measures_L2_ok (E : Env 0) (a1 : Line) : ∀ (n : Nat) (x10 : Int) (res : Int ⊕ Unit), cutting_measures_L2 a1 n x10 = some res → HL (kx E 51 0) (nd Tryd.f92 244) (loopQ 0 (fun o => cutting_measures_L2_T) (fun v st => RetQ Tryd.prog Tryd.f92 (cutting_measures_x v) (cutting_measures_o v) .ret st) res) n (cutting_measures_L2_S a1 x10) := by
  intro n
  induction n with
  | zero =>
    intro x10 res hm
    cases hm
  | succ n ih =>
    intro x10 res hm
    refine HL_succ ?_
    refine R_sq Tryd.f92 488 489 (by kernel_rfl) ?_
    refine R_rn Tryd.f92 488 6 [] [] 1 ⟨[(38, vc (tl e_i64 default a1.Sizes)), (39, vi ((a1.Sizes.length : Nat) : Int)), (40, vi x10), (41, vb (decide (x10 < ((a1.Sizes.length : Nat) : Int))))], []⟩ o0 (by kernel_rfl) (by kernel_rfl) ?_
    refine R_sq Tryd.f92 978 979 (by kernel_rfl) ?_
    refine R_cn Tryd.f92 (.tmp 41) 1956 1957 (by kernel_rfl) (decide (x10 < ((a1.Sizes.length : Nat) : Int))) (by kernel_rfl) (fun b11 => ?_) (fun b11 => ?_)
    · replace hm := bif_t b11 hm
      refine R_skip (by kernel_rfl) ?_
      refine R_sq Tryd.f92 1958 1959 (by kernel_rfl) ?_
      refine R_bk Tryd.f92 1 3916 (by kernel_rfl) ?_
      refine R_sq Tryd.f92 7832 7833 (by kernel_rfl) ?_
      obtain ⟨g12, hm⟩ := bif_n hm
      refine R_rn Tryd.f92 7832 7 [] [] 1 ⟨[(4, vi (a1.Sizes.getD x10.toNat default)), (38, vc (tl e_i64 default a1.Sizes)), (39, vi ((a1.Sizes.length : Nat) : Int)), (40, vi x10)], []⟩ (o1 (inb_of g12)) (by kernel_rfl) (by kernel_rfl) ?_
      refine R_join (ι := Bool) (nd Tryd.f92 15666) (nd Tryd.f92 15667) (by kernel_rfl) (fun p => cutting_measures_k3_S a1 x10 p) (fun p => cutting_measures_k3 x10 (cutting_measures_L2 a1 n) p = some res) ?_ ?_
      · rintro x14 hm
        show H _ (cutting_measures_k3_S a1 x10 x14) (nd Tryd.f92 15667) _
        refine R_cn Tryd.f92 (.tmp 49) 31334 31335 (by kernel_rfl) x14 (by kernel_rfl) (fun b15 => ?_) (fun b15 => ?_)
        · replace hm := bif_t b15 hm
          refine R_sq Tryd.f92 62668 62669 (by kernel_rfl) ?_
          refine R_rn Tryd.f92 62668 9 [] [] 1 ⟨[(2, vi 9)], []⟩ o0 (by kernel_rfl) (by kernel_rfl) ?_
          obtain rfl := Option.some.inj hm
          refine R_ret (by kernel_rfl) ?_
          refine L1_ret 9 ?_
          exact ret_mk (by kernel_rfl) (by kernel_rfl)
        · replace hm := bif_f b15 hm
          refine R_skip (by kernel_rfl) ?_
          refine R_rn Tryd.f92 1959 10 [] [] 1 ⟨[(38, vc (tl e_i64 default a1.Sizes)), (39, vi ((a1.Sizes.length : Nat) : Int)), (40, vi (w64 (x10 + 1)))], []⟩ o0 (by kernel_rfl) (by kernel_rfl) ?_
          exact HL_enter (cutting_measures_L2_S a1 (w64 (x10 + 1))) (by kernel_rfl) (by kernel_rfl) (ih (w64 (x10 + 1)) _ hm)
      · rcases Bool.eq_false_or_eq_true (decide ((a1.Sizes.getD x10.toNat default) < 1)) with b13 | b13
        · replace hm := bif_t b13 hm
          refine R_rn Tryd.f92 15666 8 [(2, dfx true)] [] 1 ⟨[(38, vc (tl e_i64 default a1.Sizes)), (39, vi ((a1.Sizes.length : Nat) : Int)), (40, vi x10), (49, vb true)], []⟩ (o1 b13) (by kernel_rfl) (by kernel_rfl) ?_
          exact J_mk (true) hm (by kernel_rfl) (by kernel_rfl)
        · replace hm := bif_f b13 hm
          refine R_rn Tryd.f92 15666 8 [(2, dfx false)] [] 1 ⟨[(38, vc (tl e_i64 default a1.Sizes)), (39, vi ((a1.Sizes.length : Nat) : Int)), (40, vi x10), (47, vi (a1.Sizes.getD x10.toNat default)), (48, vb (decide ((a1.Sizes.getD x10.toNat default) > 2000))), (49, vb (decide ((a1.Sizes.getD x10.toNat default) > 2000)))], []⟩ (o1 b13) (by kernel_rfl) (by kernel_rfl) ?_
          exact J_mk (decide ((a1.Sizes.getD x10.toNat default) > 2000)) hm (by kernel_rfl) (by kernel_rfl)
    · replace hm := bif_f b11 hm
      refine R_exit 0 (by kernel_rfl) ?_
      obtain rfl := Option.some.inj hm
      exact L1_mk () (by kernel_rfl) (by kernel_rfl)

set_option maxRecDepth 100000 in
theorem cutting_measures_ok (a1 : Line) (r : Int) (hm : cutting_measures a1 = some r) : CtX Tryd.prog globs 92 0 0 [.agg [ci a1.Len, ci a1.Kerf, ci a1.Pitch, tl e_i64 default a1.Sizes, tl (e_lst e_i64) default a1.Gain, tl e_i64 default a1.Chip, tl e_i64 default a1.Dust]] [] (cutting_measures_x r) (cutting_measures_o r) := by
  unfold cutting_measures at hm
  refine CtX_of_E (fn := Tryd.f92) (c := nd Tryd.f92 1) (nt := 51) (by kernel_rfl) (by kernel_rfl) (by kernel_rfl) (by kernel_rfl) fun E => ?_
  refine R_sq Tryd.f92 2 3 (by kernel_rfl) ?_
  refine R_rn Tryd.f92 2 0 [] [] 0 ⟨[(1, vp 0 0)], [(0, bx 64 [ci a1.Len, ci a1.Kerf, ci a1.Pitch, tl e_i64 default a1.Sizes, tl (e_lst e_i64) default a1.Gain, tl e_i64 default a1.Chip, tl e_i64 default a1.Dust])]⟩ o0 (by kernel_rfl) (by kernel_rfl) ?_
  refine R_sq Tryd.f92 6 7 (by kernel_rfl) ?_
  refine R_join (ι := Bool) (nd Tryd.f92 12) (nd Tryd.f92 13) (by kernel_rfl) (fun p => cutting_measures_k1_S a1 p) (fun p => cutting_measures_k1 a1 p = some r) ?_ ?_
  · rintro x7 hm
    show H _ (cutting_measures_k1_S a1 x7) (nd Tryd.f92 13) _
    refine R_cn Tryd.f92 (.tmp 32) 26 27 (by kernel_rfl) x7 (by kernel_rfl) (fun b8 => ?_) (fun b8 => ?_)
    · replace hm := bif_t b8 hm
      refine R_sq Tryd.f92 52 53 (by kernel_rfl) ?_
      refine R_rn Tryd.f92 52 2 [] [] 1 ⟨[(2, vi 9)], []⟩ o0 (by kernel_rfl) (by kernel_rfl) ?_
      obtain rfl := Option.some.inj hm
      refine R_ret (by kernel_rfl) ?_
      exact ret_mk (by kernel_rfl) (by kernel_rfl)
    · replace hm := bif_f b8 hm
      refine R_skip (by kernel_rfl) ?_
      refine R_sq Tryd.f92 14 15 (by kernel_rfl) ?_
      refine R_sq Tryd.f92 28 29 (by kernel_rfl) ?_
      refine R_rn Tryd.f92 28 3 [] [] 1 ⟨[(1, vp 0 0), (36, vb (decide (((a1.Sizes.length : Nat) : Int) > 32)))], [(0, bx 64 [ci a1.Len, ci a1.Kerf, ci a1.Pitch, tl e_i64 default a1.Sizes, tl (e_lst e_i64) default a1.Gain, tl e_i64 default a1.Chip, tl e_i64 default a1.Dust])]⟩ o0 (by kernel_rfl) (by kernel_rfl) ?_
      refine R_cn Tryd.f92 (.tmp 36) 58 59 (by kernel_rfl) (decide (((a1.Sizes.length : Nat) : Int) > 32)) (by kernel_rfl) (fun b9 => ?_) (fun b9 => ?_)
      · replace hm := bif_t b9 hm
        refine R_sq Tryd.f92 116 117 (by kernel_rfl) ?_
        refine R_rn Tryd.f92 116 4 [] [] 1 ⟨[(2, vi 4)], []⟩ o0 (by kernel_rfl) (by kernel_rfl) ?_
        obtain rfl := Option.some.inj hm
        refine R_ret (by kernel_rfl) ?_
        exact ret_mk (by kernel_rfl) (by kernel_rfl)
      · replace hm := bif_f b9 hm
        refine R_skip (by kernel_rfl) ?_
        refine R_sq Tryd.f92 30 31 (by kernel_rfl) ?_
        refine R_sq Tryd.f92 60 61 (by kernel_rfl) ?_
        refine R_rn Tryd.f92 60 5 [] [] 1 ⟨[(38, vc (tl e_i64 default a1.Sizes)), (39, vi ((a1.Sizes.length : Nat) : Int)), (40, vi 0)], []⟩ o0 (by kernel_rfl) (by kernel_rfl) ?_
        obtain ⟨u18, h17, hm⟩ := bind_s hm
        refine R_loop1 (nd Tryd.f92 244) 0 (by kernel_rfl) FUEL (fun o => cutting_measures_L2_T) (fun v st => RetQ Tryd.prog Tryd.f92 (cutting_measures_x v) (cutting_measures_o v) .ret st) u18 (HL_enter (cutting_measures_L2_S a1 0) (by kernel_rfl) (by kernel_rfl) (cutting_measures_L2_ok E a1 FUEL 0 u18 h17)) ?_ ?_
        · rintro v19 rfl st hr
          obtain rfl := Option.some.inj hm
          exact hr
        · rintro o16 rfl
          replace hm : _ = some r := hm
          refine R_sq Tryd.f92 62 63 (by kernel_rfl) ?_
          refine R_rn Tryd.f92 62 11 [] [] 1 ⟨[(2, vi 0)], []⟩ o0 (by kernel_rfl) (by kernel_rfl) ?_
          obtain rfl := Option.some.inj hm
          refine R_ret (by kernel_rfl) ?_
          exact ret_mk (by kernel_rfl) (by kernel_rfl)
  · rcases Bool.eq_false_or_eq_true (decide (a1.Len < 0)) with b2 | b2
    · replace hm := bif_t b2 hm
      refine R_rn Tryd.f92 12 1 [(3, dfx true)] [] 1 ⟨[(1, vp 0 0), (32, vb true)], [(0, bx 64 [ci a1.Len, ci a1.Kerf, ci a1.Pitch, tl e_i64 default a1.Sizes, tl (e_lst e_i64) default a1.Gain, tl e_i64 default a1.Chip, tl e_i64 default a1.Dust])]⟩ (o1 b2) (by kernel_rfl) (by kernel_rfl) ?_
      exact J_mk (true) hm (by kernel_rfl) (by kernel_rfl)
    · replace hm := bif_f b2 hm
      rcases Bool.eq_false_or_eq_true (decide (a1.Len > 2000)) with b3 | b3
      · replace hm := bif_t b3 hm
        refine R_rn Tryd.f92 12 1 [(3, dfx false), (8, dfx true)] [] 1 ⟨[(1, vp 0 0), (32, vb true)], [(0, bx 64 [ci a1.Len, ci a1.Kerf, ci a1.Pitch, tl e_i64 default a1.Sizes, tl (e_lst e_i64) default a1.Gain, tl e_i64 default a1.Chip, tl e_i64 default a1.Dust])]⟩ (o1 (And.intro b2 b3)) (by kernel_rfl) (by kernel_rfl) ?_
        exact J_mk (true) hm (by kernel_rfl) (by kernel_rfl)
      · replace hm := bif_f b3 hm
        rcases Bool.eq_false_or_eq_true (decide (a1.Kerf < 0)) with b4 | b4
        · replace hm := bif_t b4 hm
          refine R_rn Tryd.f92 12 1 [(3, dfx false), (8, dfx false), (13, dfx true)] [] 1 ⟨[(1, vp 0 0), (32, vb true)], [(0, bx 64 [ci a1.Len, ci a1.Kerf, ci a1.Pitch, tl e_i64 default a1.Sizes, tl (e_lst e_i64) default a1.Gain, tl e_i64 default a1.Chip, tl e_i64 default a1.Dust])]⟩ (o1 (And.intro b2 (And.intro b3 b4))) (by kernel_rfl) (by kernel_rfl) ?_
          exact J_mk (true) hm (by kernel_rfl) (by kernel_rfl)
        · replace hm := bif_f b4 hm
          rcases Bool.eq_false_or_eq_true (decide (a1.Kerf > 20)) with b5 | b5
          · replace hm := bif_t b5 hm
            refine R_rn Tryd.f92 12 1 [(3, dfx false), (8, dfx false), (13, dfx false), (18, dfx true)] [] 1 ⟨[(1, vp 0 0), (32, vb true)], [(0, bx 64 [ci a1.Len, ci a1.Kerf, ci a1.Pitch, tl e_i64 default a1.Sizes, tl (e_lst e_i64) default a1.Gain, tl e_i64 default a1.Chip, tl e_i64 default a1.Dust])]⟩ (o1 (And.intro b2 (And.intro b3 (And.intro b4 b5)))) (by kernel_rfl) (by kernel_rfl) ?_
            exact J_mk (true) hm (by kernel_rfl) (by kernel_rfl)
          · replace hm := bif_f b5 hm
            rcases Bool.eq_false_or_eq_true (decide (a1.Pitch < 1)) with b6 | b6
            · replace hm := bif_t b6 hm
              refine R_rn Tryd.f92 12 1 [(3, dfx false), (8, dfx false), (13, dfx false), (18, dfx false), (23, dfx true)] [] 1 ⟨[(1, vp 0 0), (32, vb true)], [(0, bx 64 [ci a1.Len, ci a1.Kerf, ci a1.Pitch, tl e_i64 default a1.Sizes, tl (e_lst e_i64) default a1.Gain, tl e_i64 default a1.Chip, tl e_i64 default a1.Dust])]⟩ (o1 (And.intro b2 (And.intro b3 (And.intro b4 (And.intro b5 b6))))) (by kernel_rfl) (by kernel_rfl) ?_
              exact J_mk (true) hm (by kernel_rfl) (by kernel_rfl)
            · replace hm := bif_f b6 hm
              refine R_rn Tryd.f92 12 1 [(3, dfx false), (8, dfx false), (13, dfx false), (18, dfx false), (23, dfx false)] [] 1 ⟨[(1, vp 0 0), (32, vb (decide (a1.Pitch > 2000)))], [(0, bx 64 [ci a1.Len, ci a1.Kerf, ci a1.Pitch, tl e_i64 default a1.Sizes, tl (e_lst e_i64) default a1.Gain, tl e_i64 default a1.Chip, tl e_i64 default a1.Dust])]⟩ (o1 (And.intro b2 (And.intro b3 (And.intro b4 (And.intro b5 b6))))) (by kernel_rfl) (by kernel_rfl) ?_
              exact J_mk (decide (a1.Pitch > 2000)) hm (by kernel_rfl) (by kernel_rfl)

end Saw
end Go.SL

namespace Go.SL
namespace Saw
open Go.Proofs
set_option maxHeartbeats 4000000

def cutting_small_x (r : Bool) : V := vb r

def cutting_small_o (r : Bool) : List (Nat × (Nat × O)) := []

theorem cutting_small_f (r : Bool) : Frozen (cutting_small_o r) := by
  intro i k o h
  unfold cutting_small_o at h
  cases h

def cutting_small_k3_S (a1 : List (List Int)) (x2 : Int) (x5 : Int) (x9 : Bool) : St :=
  ⟨[(7, vc (tl (e_lst e_i64) default a1)), (8, vi ((a1.length : Nat) : Int)), (9, vi x2), (13, vc (tl e_i64 default (a1.getD x2.toNat default))), (14, vi (((a1.getD x2.toNat default).length : Nat) : Int)), (15, vi x5), (24, vb x9)], []⟩

def cutting_small_L2_S (a1 : List (List Int)) (x2 : Int) (x5 : Int) : St :=
  ⟨[(7, vc (tl (e_lst e_i64) default a1)), (8, vi ((a1.length : Nat) : Int)), (9, vi x2), (13, vc (tl e_i64 default (a1.getD x2.toNat default))), (14, vi (((a1.getD x2.toNat default).length : Nat) : Int)), (15, vi x5)], []⟩

def cutting_small_L2_T (a1 : List (List Int)) (x2 : Int) : St :=
  ⟨[(7, vc (tl (e_lst e_i64) default a1)), (8, vi ((a1.length : Nat) : Int)), (9, vi x2)], []⟩

def cutting_small_L1_S (a1 : List (List Int)) (x2 : Int) : St :=
  ⟨[(7, vc (tl (e_lst e_i64) default a1)), (8, vi ((a1.length : Nat) : Int)), (9, vi x2)], []⟩

def cutting_small_L1_T : St :=
  ⟨[], []⟩

set_option maxRecDepth 100000 in
theorem cutting_small_L2_ok (E : Env 0) (a1 : List (List Int)) (x2 : Int) : ∀ (n : Nat) (x5 : Int) (res : Bool ⊕ Unit), cutting_small_L2 a1 x2 n x5 = some res → HL (kx E 27 0) (nd Tryd.f94 13516) (loopQ 2 (fun o => cutting_small_L2_T a1 x2) (fun v st => RetQ Tryd.prog Tryd.f94 (cutting_small_x v) (cutting_small_o v) .ret st) res) n (cutting_small_L2_S a1 x2 x5) := by
  intro n
  induction n with
  | zero =>
    intro x5 res hm
    cases hm
  | succ n ih =>
    intro x5 res hm
    refine HL_succ ?_
    refine R_sq Tryd.f94 27032 27033 (by kernel_rfl) ?_
    refine R_rn Tryd.f94 27032 5 [] [] 0 ⟨[(7, vc (tl (e_lst e_i64) default a1)), (8, vi ((a1.length : Nat) : Int)), (9, vi x2), (13, vc (tl e_i64 default (a1.getD x2.toNat default))), (14, vi (((a1.getD x2.toNat default).length : Nat) : Int)), (15, vi x5), (16, vb (decide (x5 < (((a1.getD x2.toNat default).length : Nat) : Int))))], []⟩ o0 (by kernel_rfl) (by kernel_rfl) ?_
    refine R_sq Tryd.f94 54066 54067 (by kernel_rfl) ?_
    refine R_cn Tryd.f94 (.tmp 16) 108132 108133 (by kernel_rfl) (decide (x5 < (((a1.getD x2.toNat default).length : Nat) : Int))) (by kernel_rfl) (fun b6 => ?_) (fun b6 => ?_)
    · replace hm := bif_t b6 hm
      refine R_skip (by kernel_rfl) ?_
      refine R_sq Tryd.f94 108134 108135 (by kernel_rfl) ?_
      refine R_bk Tryd.f94 3 216268 (by kernel_rfl) ?_
      refine R_sq Tryd.f94 432536 432537 (by kernel_rfl) ?_
      obtain ⟨g7, hm⟩ := bif_n hm
      refine R_rn Tryd.f94 432536 6 [] [] 0 ⟨[(6, vi ((a1.getD x2.toNat default).getD x5.toNat default)), (7, vc (tl (e_lst e_i64) default a1)), (8, vi ((a1.length : Nat) : Int)), (9, vi x2), (13, vc (tl e_i64 default (a1.getD x2.toNat default))), (14, vi (((a1.getD x2.toNat default).length : Nat) : Int)), (15, vi x5)], []⟩ (o1 (inb_of g7)) (by kernel_rfl) (by kernel_rfl) ?_
      refine R_join (ι := Bool) (nd Tryd.f94 865074) (nd Tryd.f94 865075) (by kernel_rfl) (fun p => cutting_small_k3_S a1 x2 x5 p) (fun p => cutting_small_k3 x5 (cutting_small_L2 a1 x2 n) p = some res) ?_ ?_
      · rintro x9 hm
        show H _ (cutting_small_k3_S a1 x2 x5 x9) (nd Tryd.f94 865075) _
        refine R_cn Tryd.f94 (.tmp 24) 1730150 1730151 (by kernel_rfl) x9 (by kernel_rfl) (fun b10 => ?_) (fun b10 => ?_)
        · replace hm := bif_t b10 hm
          refine R_sq Tryd.f94 3460300 3460301 (by kernel_rfl) ?_
          refine R_rn Tryd.f94 3460300 8 [] [] 0 ⟨[(2, vb false)], []⟩ o0 (by kernel_rfl) (by kernel_rfl) ?_
          obtain rfl := Option.some.inj hm
          refine R_ret (by kernel_rfl) ?_
          refine L1_ret false ?_
          exact ret_mk (by kernel_rfl) (by kernel_rfl)
        · replace hm := bif_f b10 hm
          refine R_skip (by kernel_rfl) ?_
          refine R_rn Tryd.f94 108135 9 [] [] 0 ⟨[(7, vc (tl (e_lst e_i64) default a1)), (8, vi ((a1.length : Nat) : Int)), (9, vi x2), (13, vc (tl e_i64 default (a1.getD x2.toNat default))), (14, vi (((a1.getD x2.toNat default).length : Nat) : Int)), (15, vi (w64 (x5 + 1)))], []⟩ o0 (by kernel_rfl) (by kernel_rfl) ?_
          exact HL_enter (cutting_small_L2_S a1 x2 (w64 (x5 + 1))) (by kernel_rfl) (by kernel_rfl) (ih (w64 (x5 + 1)) _ hm)
      · rcases Bool.eq_false_or_eq_true (decide (((a1.getD x2.toNat default).getD x5.toNat default) < (-1125899906842624))) with b8 | b8
        · replace hm := bif_t b8 hm
          refine R_rn Tryd.f94 865074 7 [(2, dfx true)] [] 0 ⟨[(7, vc (tl (e_lst e_i64) default a1)), (8, vi ((a1.length : Nat) : Int)), (9, vi x2), (13, vc (tl e_i64 default (a1.getD x2.toNat default))), (14, vi (((a1.getD x2.toNat default).length : Nat) : Int)), (15, vi x5), (24, vb true)], []⟩ (o1 b8) (by kernel_rfl) (by kernel_rfl) ?_
          exact J_mk (true) hm (by kernel_rfl) (by kernel_rfl)
        · replace hm := bif_f b8 hm
          refine R_rn Tryd.f94 865074 7 [(2, dfx false)] [] 0 ⟨[(7, vc (tl (e_lst e_i64) default a1)), (8, vi ((a1.length : Nat) : Int)), (9, vi x2), (13, vc (tl e_i64 default (a1.getD x2.toNat default))), (14, vi (((a1.getD x2.toNat default).length : Nat) : Int)), (15, vi x5), (22, vi ((a1.getD x2.toNat default).getD x5.toNat default)), (23, vb (decide (((a1.getD x2.toNat default).getD x5.toNat default) > 1125899906842624))), (24, vb (decide (((a1.getD x2.toNat default).getD x5.toNat default) > 1125899906842624)))], []⟩ (o1 b8) (by kernel_rfl) (by kernel_rfl) ?_
          exact J_mk (decide (((a1.getD x2.toNat default).getD x5.toNat default) > 1125899906842624)) hm (by kernel_rfl) (by kernel_rfl)
    · replace hm := bif_f b6 hm
      refine R_exit 2 (by kernel_rfl) ?_
      obtain rfl := Option.some.inj hm
      exact L1_mk () (by kernel_rfl) (by kernel_rfl)

set_option maxRecDepth 100000 in
theorem cutting_small_L1_ok (E : Env 0) (a1 : List (List Int)) : ∀ (n : Nat) (x2 : Int) (res : Bool ⊕ Unit), cutting_small_L1 a1 n x2 = some res → HL (kx E 27 0) (nd Tryd.f94 52) (loopQ 0 (fun o => cutting_small_L1_T) (fun v st => RetQ Tryd.prog Tryd.f94 (cutting_small_x v) (cutting_small_o v) .ret st) res) n (cutting_small_L1_S a1 x2) := by
  intro n
  induction n with
  | zero =>
    intro x2 res hm
    cases hm
  | succ n ih =>
    intro x2 res hm
    refine HL_succ ?_
    refine R_sq Tryd.f94 104 105 (by kernel_rfl) ?_
    refine R_rn Tryd.f94 104 2 [] [] 0 ⟨[(7, vc (tl (e_lst e_i64) default a1)), (8, vi ((a1.length : Nat) : Int)), (9, vi x2), (10, vb (decide (x2 < ((a1.length : Nat) : Int))))], []⟩ o0 (by kernel_rfl) (by kernel_rfl) ?_
    refine R_sq Tryd.f94 210 211 (by kernel_rfl) ?_
    refine R_cn Tryd.f94 (.tmp 10) 420 421 (by kernel_rfl) (decide (x2 < ((a1.length : Nat) : Int))) (by kernel_rfl) (fun b3 => ?_) (fun b3 => ?_)
    · replace hm := bif_t b3 hm
      refine R_skip (by kernel_rfl) ?_
      refine R_sq Tryd.f94 422 423 (by kernel_rfl) ?_
      refine R_bk Tryd.f94 1 844 (by kernel_rfl) ?_
      refine R_sq Tryd.f94 1688 1689 (by kernel_rfl) ?_
      obtain ⟨g4, hm⟩ := bif_n hm
      refine R_rn Tryd.f94 1688 3 [] [] 0 ⟨[(4, vc (tl e_i64 default (a1.getD x2.toNat default))), (7, vc (tl (e_lst e_i64) default a1)), (8, vi ((a1.length : Nat) : Int)), (9, vi x2)], []⟩ (o1 (inb_of g4)) (by kernel_rfl) (by kernel_rfl) ?_
      refine R_sq Tryd.f94 3378 3379 (by kernel_rfl) ?_
      refine R_rn Tryd.f94 3378 4 [] [] 0 ⟨[(7, vc (tl (e_lst e_i64) default a1)), (8, vi ((a1.length : Nat) : Int)), (9, vi x2), (13, vc (tl e_i64 default (a1.getD x2.toNat default))), (14, vi (((a1.getD x2.toNat default).length : Nat) : Int)), (15, vi 0)], []⟩ o0 (by kernel_rfl) (by kernel_rfl) ?_
      obtain ⟨u13, h12, hm⟩ := bind_s hm
      refine R_loop1 (nd Tryd.f94 13516) 2 (by kernel_rfl) FUEL (fun o => cutting_small_L2_T a1 x2) (fun v st => RetQ Tryd.prog Tryd.f94 (cutting_small_x v) (cutting_small_o v) .ret st) u13 (HL_enter (cutting_small_L2_S a1 x2 0) (by kernel_rfl) (by kernel_rfl) (cutting_small_L2_ok E a1 x2 FUEL 0 u13 h12)) ?_ ?_
      · rintro v14 rfl st hr
        obtain rfl := Option.some.inj hm
        exact L1_ret v14 hr
      · rintro o11 rfl
        replace hm : _ = some res := hm
        refine R_rn Tryd.f94 423 10 [] [] 0 ⟨[(7, vc (tl (e_lst e_i64) default a1)), (8, vi ((a1.length : Nat) : Int)), (9, vi (w64 (x2 + 1)))], []⟩ o0 (by kernel_rfl) (by kernel_rfl) ?_
        exact HL_enter (cutting_small_L1_S a1 (w64 (x2 + 1))) (by kernel_rfl) (by kernel_rfl) (ih (w64 (x2 + 1)) _ hm)
    · replace hm := bif_f b3 hm
      refine R_exit 0 (by kernel_rfl) ?_
      obtain rfl := Option.some.inj hm
      exact L1_mk () (by kernel_rfl) (by kernel_rfl)

set_option maxRecDepth 100000 in
theorem cutting_small_ok (a1 : List (List Int)) (r : Bool) (hm : cutting_small a1 = some r) : CtX Tryd.prog globs 94 0 0 [.one (tl (e_lst e_i64) default a1)] [] (cutting_small_x r) (cutting_small_o r) := by
  unfold cutting_small at hm
  refine CtX_of_E (fn := Tryd.f94) (c := nd Tryd.f94 1) (nt := 27) (by kernel_rfl) (by kernel_rfl) (by kernel_rfl) (by kernel_rfl) fun E => ?_
  refine R_sq Tryd.f94 2 3 (by kernel_rfl) ?_
  refine R_rn Tryd.f94 2 0 [] [] 0 ⟨[(0, vc (tl (e_lst e_i64) default a1))], []⟩ o0 (by kernel_rfl) (by kernel_rfl) ?_
  refine R_sq Tryd.f94 6 7 (by kernel_rfl) ?_
  refine R_sq Tryd.f94 12 13 (by kernel_rfl) ?_
  refine R_rn Tryd.f94 12 1 [] [] 0 ⟨[(7, vc (tl (e_lst e_i64) default a1)), (8, vi ((a1.length : Nat) : Int)), (9, vi 0)], []⟩ o0 (by kernel_rfl) (by kernel_rfl) ?_
  obtain ⟨u17, h16, hm⟩ := bind_s hm
  refine R_loop1 (nd Tryd.f94 52) 0 (by kernel_rfl) FUEL (fun o => cutting_small_L1_T) (fun v st => RetQ Tryd.prog Tryd.f94 (cutting_small_x v) (cutting_small_o v) .ret st) u17 (HL_enter (cutting_small_L1_S a1 0) (by kernel_rfl) (by kernel_rfl) (cutting_small_L1_ok E a1 FUEL 0 u17 h16)) ?_ ?_
  · rintro v18 rfl st hr
    obtain rfl := Option.some.inj hm
    exact hr
  · rintro o15 rfl
    replace hm : _ = some r := hm
    refine R_sq Tryd.f94 14 15 (by kernel_rfl) ?_
    refine R_rn Tryd.f94 14 11 [] [] 0 ⟨[(2, vb true)], []⟩ o0 (by kernel_rfl) (by kernel_rfl) ?_
    obtain rfl := Option.some.inj hm
    refine R_ret (by kernel_rfl) ?_
    exact ret_mk (by kernel_rfl) (by kernel_rfl)

end Saw
end Go.SL

namespace Go.SL
namespace Saw
open Go.Proofs
set_option maxHeartbeats 4000000

def cutting_Check_x (r : Int) : V := vi r

def cutting_Check_o (r : Int) : List (Nat × (Nat × O)) := []

theorem cutting_Check_f (r : Int) : Frozen (cutting_Check_o r) := by
  intro i k o h
  unfold cutting_Check_o at h
  cases h

def cutting_Check_L2_S (a1 : Line) (x9 : Int) : St :=
  ⟨[(1, vp 0 0), (35, vc (tl (e_lst e_i64) default a1.Gain)), (36, vi ((a1.Gain.length : Nat) : Int)), (37, vi x9)], [(0, bx 64 [ci a1.Len, ci a1.Kerf, ci a1.Pitch, tl e_i64 default a1.Sizes, tl (e_lst e_i64) default a1.Gain, tl e_i64 default a1.Chip, tl e_i64 default a1.Dust])]⟩

def cutting_Check_L2_T (a1 : Line) : St :=
  ⟨[(1, vp 0 0)], [(0, bx 64 [ci a1.Len, ci a1.Kerf, ci a1.Pitch, tl e_i64 default a1.Sizes, tl (e_lst e_i64) default a1.Gain, tl e_i64 default a1.Chip, tl e_i64 default a1.Dust])]⟩

def cutting_Check_k3_S (x25 : Bool) : St :=
  ⟨[(65, vb x25)], []⟩

def cutting_Check_k1_S (a1 : Line) (x7 : Bool) : St :=
  ⟨[(1, vp 0 0), (33, vb x7)], [(0, bx 64 [ci a1.Len, ci a1.Kerf, ci a1.Pitch, tl e_i64 default a1.Sizes, tl (e_lst e_i64) default a1.Gain, tl e_i64 default a1.Chip, tl e_i64 default a1.Dust])]⟩

set_option maxRecDepth 100000 in
theorem cutting_Check_L2_ok (E : Env 0) (a1 : Line) : ∀ (n : Nat) (x9 : Int) (res : Int ⊕ Unit), cutting_Check_L2 a1 n x9 = some res → HL (kx E 66 0) (nd Tryd.f67 244) (loopQ 0 (fun o => cutting_Check_L2_T a1) (fun v st => RetQ Tryd.prog Tryd.f67 (cutting_Check_x v) (cutting_Check_o v) .ret st) res) n (cutting_Check_L2_S a1 x9) := by
  intro n
  induction n with
  | zero =>
    intro x9 res hm
    cases hm
  | succ n ih =>
    intro x9 res hm
    refine HL_succ ?_
    refine R_sq Tryd.f67 488 489 (by kernel_rfl) ?_
    refine R_rn Tryd.f67 488 7 [] [] 1 ⟨[(1, vp 0 0), (35, vc (tl (e_lst e_i64) default a1.Gain)), (36, vi ((a1.Gain.length : Nat) : Int)), (37, vi x9), (38, vb (decide (x9 < ((a1.Gain.length : Nat) : Int))))], [(0, bx 64 [ci a1.Len, ci a1.Kerf, ci a1.Pitch, tl e_i64 default a1.Sizes, tl (e_lst e_i64) default a1.Gain, tl e_i64 default a1.Chip, tl e_i64 default a1.Dust])]⟩ o0 (by kernel_rfl) (by kernel_rfl) ?_
    refine R_sq Tryd.f67 978 979 (by kernel_rfl) ?_
    refine R_cn Tryd.f67 (.tmp 38) 1956 1957 (by kernel_rfl) (decide (x9 < ((a1.Gain.length : Nat) : Int))) (by kernel_rfl) (fun b10 => ?_) (fun b10 => ?_)
    · replace hm := bif_t b10 hm
      refine R_skip (by kernel_rfl) ?_
      refine R_sq Tryd.f67 1958 1959 (by kernel_rfl) ?_
      refine R_bk Tryd.f67 1 3916 (by kernel_rfl) ?_
      refine R_sq Tryd.f67 7832 7833 (by kernel_rfl) ?_
      obtain ⟨g11, hm⟩ := bif_n hm
      refine R_rn Tryd.f67 7832 8 [] [] 1 ⟨[(1, vp 0 0), (4, vi x9), (5, vc (tl e_i64 default (a1.Gain.getD x9.toNat default))), (35, vc (tl (e_lst e_i64) default a1.Gain)), (36, vi ((a1.Gain.length : Nat) : Int)), (37, vi x9)], [(0, bx 64 [ci a1.Len, ci a1.Kerf, ci a1.Pitch, tl e_i64 default a1.Sizes, tl (e_lst e_i64) default a1.Gain, tl e_i64 default a1.Chip, tl e_i64 default a1.Dust])]⟩ (o1 (inb_of g11)) (by kernel_rfl) (by kernel_rfl) ?_
      refine R_sq Tryd.f67 15666 15667 (by kernel_rfl) ?_
      obtain ⟨g12, hm⟩ := bif_n hm
      obtain ⟨v13, h14, hm⟩ := bind_s hm
      refine R_dr Tryd.f67 15666 9 [] [(8, dex (cen [] [] 1 0 (cutting_places_x v13) (cutting_places_o v13) [44, 49] []))] [] [0, 1, 0, 0, 8, 0, 56, 120, 252, 511] 1 ⟨[(1, vp 0 0), (35, vc (tl (e_lst e_i64) default a1.Gain)), (36, vi ((a1.Gain.length : Nat) : Int)), (37, vi x9), (51, vb ((((a1.Gain.getD x9.toNat default).length : Nat) : Int) != v13))], [(0, bx 64 [ci a1.Len, ci a1.Kerf, ci a1.Pitch, tl e_i64 default a1.Sizes, tl (e_lst e_i64) default a1.Gain, tl e_i64 default a1.Chip, tl e_i64 default a1.Dust])]⟩ (o1 (And.intro (inb_of g12) (callS (K := (kx E 66 0)) ⟨[(44, va [ci a1.Len, ci a1.Kerf, ci a1.Pitch, tl e_i64 default a1.Sizes, tl (e_lst e_i64) default a1.Gain, tl e_i64 default a1.Chip, tl e_i64 default a1.Dust]), (49, vi (a1.Sizes.getD x9.toNat default))], []⟩ (opAt (rg Tryd.f67 15666) 8) [] [] 1 o0 rfl (cutting_places_ok a1 (a1.Sizes.getD x9.toNat default) v13 h14) (.inl rfl) (by kernel_rfl)))) (by kernel_rfl) (by kernel_rfl) ?_
      refine R_cn Tryd.f67 (.tmp 51) 31334 31335 (by kernel_rfl) ((((a1.Gain.getD x9.toNat default).length : Nat) : Int) != v13) (by kernel_rfl) (fun b15 => ?_) (fun b15 => ?_)
      · replace hm := bif_t b15 hm
        refine R_sq Tryd.f67 62668 62669 (by kernel_rfl) ?_
        refine R_rn Tryd.f67 62668 10 [] [] 1 ⟨[(2, vi 19)], []⟩ o0 (by kernel_rfl) (by kernel_rfl) ?_
        obtain rfl := Option.some.inj hm
        refine R_ret (by kernel_rfl) ?_
        refine L1_ret 19 ?_
        exact ret_mk (by kernel_rfl) (by kernel_rfl)
      · replace hm := bif_f b15 hm
        refine R_skip (by kernel_rfl) ?_
        refine R_rn Tryd.f67 1959 11 [] [] 1 ⟨[(1, vp 0 0), (35, vc (tl (e_lst e_i64) default a1.Gain)), (36, vi ((a1.Gain.length : Nat) : Int)), (37, vi (w64 (x9 + 1)))], [(0, bx 64 [ci a1.Len, ci a1.Kerf, ci a1.Pitch, tl e_i64 default a1.Sizes, tl (e_lst e_i64) default a1.Gain, tl e_i64 default a1.Chip, tl e_i64 default a1.Dust])]⟩ o0 (by kernel_rfl) (by kernel_rfl) ?_
        exact HL_enter (cutting_Check_L2_S a1 (w64 (x9 + 1))) (by kernel_rfl) (by kernel_rfl) (ih (w64 (x9 + 1)) _ hm)
    · replace hm := bif_f b10 hm
      refine R_exit 0 (by kernel_rfl) ?_
      obtain rfl := Option.some.inj hm
      exact L1_mk () (by kernel_rfl) (by kernel_rfl)

set_option maxRecDepth 100000 in
theorem cutting_Check_ok (a1 : Line) (r : Int) (hm : cutting_Check a1 = some r) : CtX Tryd.prog globs 67 0 0 [.agg [ci a1.Len, ci a1.Kerf, ci a1.Pitch, tl e_i64 default a1.Sizes, tl (e_lst e_i64) default a1.Gain, tl e_i64 default a1.Chip, tl e_i64 default a1.Dust]] [] (cutting_Check_x r) (cutting_Check_o r) := by
  unfold cutting_Check at hm
  refine CtX_of_E (fn := Tryd.f67) (c := nd Tryd.f67 1) (nt := 66) (by kernel_rfl) (by kernel_rfl) (by kernel_rfl) (by kernel_rfl) fun E => ?_
  refine R_sq Tryd.f67 2 3 (by kernel_rfl) ?_
  refine R_rn Tryd.f67 2 0 [] [] 0 ⟨[(1, vp 0 0)], [(0, bx 64 [ci a1.Len, ci a1.Kerf, ci a1.Pitch, tl e_i64 default a1.Sizes, tl (e_lst e_i64) default a1.Gain, tl e_i64 default a1.Chip, tl e_i64 default a1.Dust])]⟩ o0 (by kernel_rfl) (by kernel_rfl) ?_
  refine R_sq Tryd.f67 6 7 (by kernel_rfl) ?_
  refine R_sq Tryd.f67 12 13 (by kernel_rfl) ?_
  obtain ⟨v2, h3, hm⟩ := bind_s hm
  refine R_rn Tryd.f67 12 1 [(1, dex (cen [] [] 1 0 (cutting_measures_x v2) (cutting_measures_o v2) [6] []))] [] 1 ⟨[(1, vp 0 0), (3, vi v2)], [(0, bx 64 [ci a1.Len, ci a1.Kerf, ci a1.Pitch, tl e_i64 default a1.Sizes, tl (e_lst e_i64) default a1.Gain, tl e_i64 default a1.Chip, tl e_i64 default a1.Dust])]⟩ (o1 (callS (K := (kx E 66 0)) ⟨[(6, va [ci a1.Len, ci a1.Kerf, ci a1.Pitch, tl e_i64 default a1.Sizes, tl (e_lst e_i64) default a1.Gain, tl e_i64 default a1.Chip, tl e_i64 default a1.Dust])], []⟩ (opAt (rg Tryd.f67 12) 1) [] [] 1 o0 rfl (cutting_measures_ok a1 v2 h3) (.inl rfl) (by kernel_rfl))) (by kernel_rfl) (by kernel_rfl) ?_
  refine R_sq Tryd.f67 26 27 (by kernel_rfl) ?_
  refine R_rn Tryd.f67 26 2 [] [] 1 ⟨[(1, vp 0 0), (3, vi v2), (9, vb (v2 != 0))], [(0, bx 64 [ci a1.Len, ci a1.Kerf, ci a1.Pitch, tl e_i64 default a1.Sizes, tl (e_lst e_i64) default a1.Gain, tl e_i64 default a1.Chip, tl e_i64 default a1.Dust])]⟩ o0 (by kernel_rfl) (by kernel_rfl) ?_
  refine R_cn Tryd.f67 (.tmp 9) 54 55 (by kernel_rfl) (v2 != 0) (by kernel_rfl) (fun b4 => ?_) (fun b4 => ?_)
  · replace hm := bif_t b4 hm
    refine R_sq Tryd.f67 108 109 (by kernel_rfl) ?_
    refine R_rn Tryd.f67 108 3 [] [] 1 ⟨[(2, vi v2)], []⟩ o0 (by kernel_rfl) (by kernel_rfl) ?_
    obtain rfl := Option.some.inj hm
    refine R_ret (by kernel_rfl) ?_
    exact ret_mk (by kernel_rfl) (by kernel_rfl)
  · replace hm := bif_f b4 hm
    refine R_skip (by kernel_rfl) ?_
    refine R_sq Tryd.f67 14 15 (by kernel_rfl) ?_
    refine R_join (ι := Bool) (nd Tryd.f67 28) (nd Tryd.f67 29) (by kernel_rfl) (fun p => cutting_Check_k1_S a1 p) (fun p => cutting_Check_k1 a1 p = some r) ?_ ?_
    · rintro x7 hm
      show H _ (cutting_Check_k1_S a1 x7) (nd Tryd.f67 29) _
      refine R_cn Tryd.f67 (.tmp 33) 58 59 (by kernel_rfl) x7 (by kernel_rfl) (fun b8 => ?_) (fun b8 => ?_)
      · replace hm := bif_t b8 hm
        refine R_sq Tryd.f67 116 117 (by kernel_rfl) ?_
        refine R_rn Tryd.f67 116 5 [] [] 1 ⟨[(2, vi 19)], []⟩ o0 (by kernel_rfl) (by kernel_rfl) ?_
        obtain rfl := Option.some.inj hm
        refine R_ret (by kernel_rfl) ?_
        exact ret_mk (by kernel_rfl) (by kernel_rfl)
      · replace hm := bif_f b8 hm
        refine R_skip (by kernel_rfl) ?_
        refine R_sq Tryd.f67 30 31 (by kernel_rfl) ?_
        refine R_sq Tryd.f67 60 61 (by kernel_rfl) ?_
        refine R_rn Tryd.f67 60 6 [] [] 1 ⟨[(1, vp 0 0), (35, vc (tl (e_lst e_i64) default a1.Gain)), (36, vi ((a1.Gain.length : Nat) : Int)), (37, vi 0)], [(0, bx 64 [ci a1.Len, ci a1.Kerf, ci a1.Pitch, tl e_i64 default a1.Sizes, tl (e_lst e_i64) default a1.Gain, tl e_i64 default a1.Chip, tl e_i64 default a1.Dust])]⟩ o0 (by kernel_rfl) (by kernel_rfl) ?_
        obtain ⟨u18, h17, hm⟩ := bind_s hm
        refine R_loop1 (nd Tryd.f67 244) 0 (by kernel_rfl) FUEL (fun o => cutting_Check_L2_T a1) (fun v st => RetQ Tryd.prog Tryd.f67 (cutting_Check_x v) (cutting_Check_o v) .ret st) u18 (HL_enter (cutting_Check_L2_S a1 0) (by kernel_rfl) (by kernel_rfl) (cutting_Check_L2_ok E a1 FUEL 0 u18 h17)) ?_ ?_
        · rintro v19 rfl st hr
          obtain rfl := Option.some.inj hm
          exact hr
        · rintro o16 rfl
          replace hm : _ = some r := hm
          refine R_sq Tryd.f67 62 63 (by kernel_rfl) ?_
          refine R_join (ι := Bool) (nd Tryd.f67 124) (nd Tryd.f67 125) (by kernel_rfl) (fun p => cutting_Check_k3_S p) (fun p => cutting_Check_k3 p = some r) ?_ ?_
          · rintro x25 hm
            show H _ (cutting_Check_k3_S x25) (nd Tryd.f67 125) _
            refine R_cn Tryd.f67 (.tmp 65) 250 251 (by kernel_rfl) x25 (by kernel_rfl) (fun b26 => ?_) (fun b26 => ?_)
            · replace hm := bif_t b26 hm
              refine R_sq Tryd.f67 500 501 (by kernel_rfl) ?_
              refine R_rn Tryd.f67 500 13 [] [] 2 ⟨[(2, vi 9)], []⟩ o0 (by kernel_rfl) (by kernel_rfl) ?_
              obtain rfl := Option.some.inj hm
              refine R_ret (by kernel_rfl) ?_
              exact ret_mk (by kernel_rfl) (by kernel_rfl)
            · replace hm := bif_f b26 hm
              refine R_skip (by kernel_rfl) ?_
              refine R_sq Tryd.f67 126 127 (by kernel_rfl) ?_
              refine R_rn Tryd.f67 126 14 [] [] 2 ⟨[(2, vi 0)], []⟩ o0 (by kernel_rfl) (by kernel_rfl) ?_
              obtain rfl := Option.some.inj hm
              refine R_ret (by kernel_rfl) ?_
              exact ret_mk (by kernel_rfl) (by kernel_rfl)
          · obtain ⟨v20, h21, hm⟩ := bind_s hm
            rcases Bool.eq_false_or_eq_true (!v20) with b22 | b22
            · replace hm := bif_t b22 hm
              refine R_rn Tryd.f67 124 12 [(2, dex (cen [] [] 1 0 (cutting_small_x v20) (cutting_small_o v20) [54] [])), (4, dfx true)] [] 1 ⟨[(65, vb true)], []⟩ (o1 (And.intro (callS (K := (kx E 66 0)) ⟨[(54, vc (tl (e_lst e_i64) default a1.Gain))], []⟩ (opAt (rg Tryd.f67 124) 2) [] [] 1 o0 rfl (cutting_small_ok a1.Gain v20 h21) (.inl rfl) (by kernel_rfl)) b22)) (by kernel_rfl) (by kernel_rfl) ?_
              exact J_mk (true) hm (by kernel_rfl) (by kernel_rfl)
            · replace hm := bif_f b22 hm
              obtain ⟨v23, h24, hm⟩ := bind_s hm
              refine R_rn Tryd.f67 124 12 [(2, dex (cen [] [] 1 0 (cutting_small_x v20) (cutting_small_o v20) [54] [])), (4, dfx false), (9, drw 1 0 (rf (e_lst e_i64) ([a1.Chip, a1.Dust] : List (List Int)))), (10, dex (cen [] [] 2 0 (cutting_small_x v23) (cutting_small_o v23) [57, 62] [1]))] [] 1 ⟨[(65, vb (!v23))], []⟩ (o1 (And.intro (callS (K := (kx E 66 0)) ⟨[(54, vc (tl (e_lst e_i64) default a1.Gain))], []⟩ (opAt (rg Tryd.f67 124) 2) [] [] 1 o0 rfl (cutting_small_ok a1.Gain v20 h21) (.inl rfl) (by kernel_rfl)) (And.intro b22 (And.intro (litP (e_lst e_i64) default 1 (fun _ => rfl) ([a1.Chip, a1.Dust] : List (List Int)) 2 rfl) (callS (K := (kx E 66 0)) (xs' := [.one (.lst 2 (rf (e_lst e_i64) ([a1.Chip, a1.Dust] : List (List Int))))]) (b := false) ⟨[(57, vb false), (62, vo 1 0 1 2)], [(1, ro 0 25 1 2 (rf (e_lst e_i64) ([a1.Chip, a1.Dust] : List (List Int))))]⟩ (opAt (rg Tryd.f67 124) 10) [] [] 2 (o1 (Nat.le_refl 2)) (by simp only [tl, rf, show ([a1.Chip, a1.Dust] : List (List Int)).length = 2 from rfl]) (cutting_small_ok ([a1.Chip, a1.Dust] : List (List Int)) v23 h24) (.inr ⟨(by kernel_rfl), cutting_small_f v23⟩) (by kernel_rfl)))))) (by kernel_rfl) (by kernel_rfl) ?_
              exact J_mk (!v23) hm (by kernel_rfl) (by kernel_rfl)
    · rcases Bool.eq_false_or_eq_true (((a1.Gain.length : Nat) : Int) != ((a1.Sizes.length : Nat) : Int)) with b5 | b5
      · replace hm := bif_t b5 hm
        refine R_rn Tryd.f67 28 4 [(7, dfx true)] [] 1 ⟨[(1, vp 0 0), (33, vb true)], [(0, bx 64 [ci a1.Len, ci a1.Kerf, ci a1.Pitch, tl e_i64 default a1.Sizes, tl (e_lst e_i64) default a1.Gain, tl e_i64 default a1.Chip, tl e_i64 default a1.Dust])]⟩ (o1 b5) (by kernel_rfl) (by kernel_rfl) ?_
        exact J_mk (true) hm (by kernel_rfl) (by kernel_rfl)
      · replace hm := bif_f b5 hm
        rcases Bool.eq_false_or_eq_true (((a1.Chip.length : Nat) : Int) != a1.Len) with b6 | b6
        · replace hm := bif_t b6 hm
          refine R_rn Tryd.f67 28 4 [(7, dfx false), (15, dfx true)] [] 1 ⟨[(1, vp 0 0), (33, vb true)], [(0, bx 64 [ci a1.Len, ci a1.Kerf, ci a1.Pitch, tl e_i64 default a1.Sizes, tl (e_lst e_i64) default a1.Gain, tl e_i64 default a1.Chip, tl e_i64 default a1.Dust])]⟩ (o1 (And.intro b5 b6)) (by kernel_rfl) (by kernel_rfl) ?_
          exact J_mk (true) hm (by kernel_rfl) (by kernel_rfl)
        · replace hm := bif_f b6 hm
          refine R_rn Tryd.f67 28 4 [(7, dfx false), (15, dfx false)] [] 1 ⟨[(1, vp 0 0), (33, vb (((a1.Dust.length : Nat) : Int) != a1.Len))], [(0, bx 64 [ci a1.Len, ci a1.Kerf, ci a1.Pitch, tl e_i64 default a1.Sizes, tl (e_lst e_i64) default a1.Gain, tl e_i64 default a1.Chip, tl e_i64 default a1.Dust])]⟩ (o1 (And.intro b5 b6)) (by kernel_rfl) (by kernel_rfl) ?_
          exact J_mk (((a1.Dust.length : Nat) : Int) != a1.Len) hm (by kernel_rfl) (by kernel_rfl)

end Saw
end Go.SL
