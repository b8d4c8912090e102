import Derived.Test.YtjelipmghgcpeaaSBase
import Derived.Test.YtjelipmghgcpeaaYa5
import Derived.Test.YtjelipmghgcpeaaPCmp
import Derived.Ground.SlsfProg
set_option linter.unusedVariables false
set_option linter.unusedSimpArgs false
namespace Go.SL
namespace Saw
open Go.Proofs
set_option maxHeartbeats 4000000

def cmp_isNaN_i64_x (r : Bool) : V := vb r

def cmp_isNaN_i64_o (r : Bool) : List (Nat × (Nat × O)) := []

theorem cmp_isNaN_i64_f (r : Bool) : Frozen (cmp_isNaN_i64_o r) := by
  intro i k o h
  unfold cmp_isNaN_i64_o at h
  cases h

set_option maxRecDepth 100000 in
theorem cmp_isNaN_i64_ok (a1 : Int) (r : Bool) (hm : cmp_isNaN_i64 a1 = some r) : CtX Try.prog globs 88 0 0 [.one (ci a1)] [] (cmp_isNaN_i64_x r) (cmp_isNaN_i64_o r) := by
  unfold cmp_isNaN_i64 at hm
  refine CtX_of_E (fn := Try.f88) (c := nd Try.f88 1) (nt := 6) (by kernel_rfl) (by kernel_rfl) (by kernel_rfl) (by kernel_rfl) fun E => ?_
  refine R_sq Try.f88 2 3 (by kernel_rfl) ?_
  refine R_rn Try.f88 2 0 [] [] 0 ⟨[(0, vi a1)], []⟩ o0 (by kernel_rfl) (by kernel_rfl) ?_
  refine R_sq Try.f88 6 7 (by kernel_rfl) ?_
  refine R_rn Try.f88 6 1 [] [] 0 ⟨[(2, vb (a1 != a1))], []⟩ o0 (by kernel_rfl) (by kernel_rfl) ?_
  obtain rfl := Option.some.inj hm
  refine R_ret (by kernel_rfl) ?_
  exact ret_mk (by kernel_rfl) (by kernel_rfl)

end Saw
end Go.SL

namespace Go.SL
namespace Saw
open Go.Proofs
set_option maxHeartbeats 4000000

def cmp_Compare_i64_x (r : Int) : V := vi r

def cmp_Compare_i64_o (r : Int) : List (Nat × (Nat × O)) := []

theorem cmp_Compare_i64_f (r : Int) : Frozen (cmp_Compare_i64_o r) := by
  intro i k o h
  unfold cmp_Compare_i64_o at h
  cases h

set_option maxRecDepth 100000 in
theorem cmp_Compare_i64_ok (a1 : Int) (a2 : Int) (r : Int) (hm : cmp_Compare_i64 a1 a2 = some r) : CtX Try.prog globs 71 0 0 [.one (ci a1), .one (ci a2)] [] (cmp_Compare_i64_x r) (cmp_Compare_i64_o r) := by
  unfold cmp_Compare_i64 at hm
  refine CtX_of_E (fn := Try.f71) (c := nd Try.f71 1) (nt := 20) (by kernel_rfl) (by kernel_rfl) (by kernel_rfl) (by kernel_rfl) fun E => ?_
  refine R_sq Try.f71 2 3 (by kernel_rfl) ?_
  refine R_rn Try.f71 2 0 [] [] 0 ⟨[(0, vi a1), (1, vi a2)], []⟩ o0 (by kernel_rfl) (by kernel_rfl) ?_
  refine R_sq Try.f71 6 7 (by kernel_rfl) ?_
  obtain ⟨v3, h4, hm⟩ := bind_s hm
  refine R_rn Try.f71 6 1 [(1, dex (cen [] [] 0 0 (cmp_isNaN_i64_x v3) (cmp_isNaN_i64_o v3) [7] []))] [] 0 ⟨[(0, vi a1), (1, vi a2), (5, vb v3)], []⟩ (o1 (callS (K := (kx E 20 0)) ⟨[(7, vi a1)], []⟩ (opAt (rg Try.f71 6) 1) [] [] 0 o0 rfl (cmp_isNaN_i64_ok a1 v3 h4) (.inl rfl) (by kernel_rfl))) (by kernel_rfl) (by kernel_rfl) ?_
  refine R_sq Try.f71 14 15 (by kernel_rfl) ?_
  obtain ⟨v5, h6, hm⟩ := bind_s hm
  refine R_rn Try.f71 14 2 [(1, dex (cen [] [] 0 0 (cmp_isNaN_i64_x v5) (cmp_isNaN_i64_o v5) [9] []))] [] 0 ⟨[(0, vi a1), (1, vi a2), (5, vb v3), (6, vb v5)], []⟩ (o1 (callS (K := (kx E 20 0)) ⟨[(9, vi a2)], []⟩ (opAt (rg Try.f71 14) 1) [] [] 0 o0 rfl (cmp_isNaN_i64_ok a2 v5 h6) (.inl rfl) (by kernel_rfl))) (by kernel_rfl) (by kernel_rfl) ?_
  refine R_sq Try.f71 30 31 (by kernel_rfl) ?_
  refine R_sq Try.f71 60 61 (by kernel_rfl) ?_
  refine R_rn Try.f71 60 3 [] [] 0 ⟨[(0, vi a1), (1, vi a2), (6, vb v5), (11, vb v3)], []⟩ o0 (by kernel_rfl) (by kernel_rfl) ?_
  refine R_cn Try.f71 (.tmp 11) 122 123 (by kernel_rfl) v3 (by kernel_rfl) (fun b7 => ?_) (fun b7 => ?_)
  · replace hm := bif_t b7 hm
    refine R_sq Try.f71 244 245 (by kernel_rfl) ?_
    refine R_sq Try.f71 488 489 (by kernel_rfl) ?_
    refine R_rn Try.f71 488 4 [] [] 0 ⟨[(12, vb v5)], []⟩ o0 (by kernel_rfl) (by kernel_rfl) ?_
    refine R_cn Try.f71 (.tmp 12) 978 979 (by kernel_rfl) v5 (by kernel_rfl) (fun b8 => ?_) (fun b8 => ?_)
    · replace hm := bif_t b8 hm
      refine R_sq Try.f71 1956 1957 (by kernel_rfl) ?_
      refine R_rn Try.f71 1956 5 [] [] 0 ⟨[(4, vi 0)], []⟩ o0 (by kernel_rfl) (by kernel_rfl) ?_
      obtain rfl := Option.some.inj hm
      refine R_ret (by kernel_rfl) ?_
      exact ret_mk (by kernel_rfl) (by kernel_rfl)
    · replace hm := bif_f b8 hm
      refine R_skip (by kernel_rfl) ?_
      refine R_sq Try.f71 490 491 (by kernel_rfl) ?_
      refine R_rn Try.f71 490 6 [] [] 0 ⟨[(4, vi (-1))], []⟩ o0 (by kernel_rfl) (by kernel_rfl) ?_
      obtain rfl := Option.some.inj hm
      refine R_ret (by kernel_rfl) ?_
      exact ret_mk (by kernel_rfl) (by kernel_rfl)
  · replace hm := bif_f b7 hm
    refine R_skip (by kernel_rfl) ?_
    refine R_sq Try.f71 62 63 (by kernel_rfl) ?_
    refine R_sq Try.f71 124 125 (by kernel_rfl) ?_
    refine R_rn Try.f71 124 7 [] [] 0 ⟨[(0, vi a1), (1, vi a2), (13, vb v5)], []⟩ o0 (by kernel_rfl) (by kernel_rfl) ?_
    refine R_cn Try.f71 (.tmp 13) 250 251 (by kernel_rfl) v5 (by kernel_rfl) (fun b9 => ?_) (fun b9 => ?_)
    · replace hm := bif_t b9 hm
      refine R_sq Try.f71 500 501 (by kernel_rfl) ?_
      refine R_rn Try.f71 500 8 [] [] 0 ⟨[(4, vi 1)], []⟩ o0 (by kernel_rfl) (by kernel_rfl) ?_
      obtain rfl := Option.some.inj hm
      refine R_ret (by kernel_rfl) ?_
      exact ret_mk (by kernel_rfl) (by kernel_rfl)
    · replace hm := bif_f b9 hm
      refine R_skip (by kernel_rfl) ?_
      refine R_sq Try.f71 126 127 (by kernel_rfl) ?_
      refine R_sq Try.f71 252 253 (by kernel_rfl) ?_
      refine R_rn Try.f71 252 9 [] [] 0 ⟨[(0, vi a1), (1, vi a2), (16, vb (decide (a1 < a2)))], []⟩ o0 (by kernel_rfl) (by kernel_rfl) ?_
      refine R_cn Try.f71 (.tmp 16) 506 507 (by kernel_rfl) (decide (a1 < a2)) (by kernel_rfl) (fun b10 => ?_) (fun b10 => ?_)
      · replace hm := bif_t b10 hm
        refine R_sq Try.f71 1012 1013 (by kernel_rfl) ?_
        refine R_rn Try.f71 1012 10 [] [] 0 ⟨[(4, vi (-1))], []⟩ o0 (by kernel_rfl) (by kernel_rfl) ?_
        obtain rfl := Option.some.inj hm
        refine R_ret (by kernel_rfl) ?_
        exact ret_mk (by kernel_rfl) (by kernel_rfl)
      · replace hm := bif_f b10 hm
        refine R_skip (by kernel_rfl) ?_
        refine R_sq Try.f71 254 255 (by kernel_rfl) ?_
        refine R_sq Try.f71 508 509 (by kernel_rfl) ?_
        refine R_rn Try.f71 508 11 [] [] 0 ⟨[(19, vb (decide (a1 > a2)))], []⟩ o0 (by kernel_rfl) (by kernel_rfl) ?_
        refine R_cn Try.f71 (.tmp 19) 1018 1019 (by kernel_rfl) (decide (a1 > a2)) (by kernel_rfl) (fun b11 => ?_) (fun b11 => ?_)
        · replace hm := bif_t b11 hm
          refine R_sq Try.f71 2036 2037 (by kernel_rfl) ?_
          refine R_rn Try.f71 2036 12 [] [] 0 ⟨[(4, vi 1)], []⟩ o0 (by kernel_rfl) (by kernel_rfl) ?_
          obtain rfl := Option.some.inj hm
          refine R_ret (by kernel_rfl) ?_
          exact ret_mk (by kernel_rfl) (by kernel_rfl)
        · replace hm := bif_f b11 hm
          refine R_skip (by kernel_rfl) ?_
          refine R_sq Try.f71 510 511 (by kernel_rfl) ?_
          refine R_rn Try.f71 510 13 [] [] 0 ⟨[(4, vi 0)], []⟩ o0 (by kernel_rfl) (by kernel_rfl) ?_
          obtain rfl := Option.some.inj hm
          refine R_ret (by kernel_rfl) ?_
          exact ret_mk (by kernel_rfl) (by kernel_rfl)

end Saw
end Go.SL

namespace Go.SL
namespace Saw
open Go.Proofs
set_option maxHeartbeats 4000000

def cmp_Or_Si64_x (r : Int) : V := vi r

def cmp_Or_Si64_o (r : Int) : List (Nat × (Nat × O)) := []

theorem cmp_Or_Si64_f (r : Int) : Frozen (cmp_Or_Si64_o r) := by
  intro i k o h
  unfold cmp_Or_Si64_o at h
  cases h

def cmp_Or_Si64_L1_S (a1 : List Int) (x2 : Int) : St :=
  ⟨[(3, vi 0), (6, vc (tl e_i64 default a1)), (7, vi ((a1.length : Nat) : Int)), (8, vi x2)], []⟩

def cmp_Or_Si64_L1_T : St :=
  ⟨[(3, vi 0)], []⟩

set_option maxRecDepth 100000 in
theorem cmp_Or_Si64_L1_ok (E : Env 0) (a1 : List Int) : ∀ (n : Nat) (x2 : Int) (res : Int ⊕ Unit), cmp_Or_Si64_L1 a1 n x2 = some res → HL (kx E 18 0) (nd Try.f70 116) (loopQ 0 (fun o => cmp_Or_Si64_L1_T) (fun v st => RetQ Try.prog Try.f70 (cmp_Or_Si64_x v) (cmp_Or_Si64_o v) .ret st) res) n (cmp_Or_Si64_L1_S a1 x2) := by
  intro n
  induction n with
  | zero =>
    intro x2 res hm
    cases hm
  | succ n ih =>
    intro x2 res hm
    refine HL_succ ?_
    refine R_sq Try.f70 232 233 (by kernel_rfl) ?_
    refine R_rn Try.f70 232 3 [] [] 0 ⟨[(3, vi 0), (6, vc (tl e_i64 default a1)), (7, vi ((a1.length : Nat) : Int)), (8, vi x2), (9, vb (decide (x2 < ((a1.length : Nat) : Int))))], []⟩ o0 (by kernel_rfl) (by kernel_rfl) ?_
    refine R_sq Try.f70 466 467 (by kernel_rfl) ?_
    refine R_cn Try.f70 (.tmp 9) 932 933 (by kernel_rfl) (decide (x2 < ((a1.length : Nat) : Int))) (by kernel_rfl) (fun b3 => ?_) (fun b3 => ?_)
    · replace hm := bif_t b3 hm
      refine R_skip (by kernel_rfl) ?_
      refine R_sq Try.f70 934 935 (by kernel_rfl) ?_
      refine R_bk Try.f70 1 1868 (by kernel_rfl) ?_
      refine R_sq Try.f70 3736 3737 (by kernel_rfl) ?_
      obtain ⟨g4, hm⟩ := bif_n hm
      refine R_rn Try.f70 3736 4 [] [] 0 ⟨[(3, vi 0), (5, vi (a1.getD x2.toNat default)), (6, vc (tl e_i64 default a1)), (7, vi ((a1.length : Nat) : Int)), (8, vi x2)], []⟩ (o1 (inb_of g4)) (by kernel_rfl) (by kernel_rfl) ?_
      refine R_sq Try.f70 7474 7475 (by kernel_rfl) ?_
      refine R_rn Try.f70 7474 5 [] [] 0 ⟨[(3, vi 0), (5, vi (a1.getD x2.toNat default)), (6, vc (tl e_i64 default a1)), (7, vi ((a1.length : Nat) : Int)), (8, vi x2), (14, vb ((a1.getD x2.toNat default) != 0))], []⟩ o0 (by kernel_rfl) (by kernel_rfl) ?_
      refine R_cn Try.f70 (.tmp 14) 14950 14951 (by kernel_rfl) ((a1.getD x2.toNat default) != 0) (by kernel_rfl) (fun b5 => ?_) (fun b5 => ?_)
      · replace hm := bif_t b5 hm
        refine R_sq Try.f70 29900 29901 (by kernel_rfl) ?_
        refine R_rn Try.f70 29900 6 [] [] 0 ⟨[(2, vi (a1.getD x2.toNat default))], []⟩ o0 (by kernel_rfl) (by kernel_rfl) ?_
        obtain rfl := Option.some.inj hm
        refine R_ret (by kernel_rfl) ?_
        refine L1_ret (a1.getD x2.toNat default) ?_
        exact ret_mk (by kernel_rfl) (by kernel_rfl)
      · replace hm := bif_f b5 hm
        refine R_skip (by kernel_rfl) ?_
        refine R_rn Try.f70 935 7 [] [] 0 ⟨[(3, vi 0), (6, vc (tl e_i64 default a1)), (7, vi ((a1.length : Nat) : Int)), (8, vi (w64 (x2 + 1)))], []⟩ o0 (by kernel_rfl) (by kernel_rfl) ?_
        exact HL_enter (cmp_Or_Si64_L1_S a1 (w64 (x2 + 1))) (by kernel_rfl) (by kernel_rfl) (ih (w64 (x2 + 1)) _ hm)
    · replace hm := bif_f b3 hm
      refine R_exit 0 (by kernel_rfl) ?_
      obtain rfl := Option.some.inj hm
      exact L1_mk () (by kernel_rfl) (by kernel_rfl)

set_option maxRecDepth 100000 in
theorem cmp_Or_Si64_ok (a1 : List Int) (r : Int) (hm : cmp_Or_Si64 a1 = some r) : CtX Try.prog globs 70 0 0 [.one (tl e_i64 default a1)] [] (cmp_Or_Si64_x r) (cmp_Or_Si64_o r) := by
  unfold cmp_Or_Si64 at hm
  refine CtX_of_E (fn := Try.f70) (c := nd Try.f70 1) (nt := 18) (by kernel_rfl) (by kernel_rfl) (by kernel_rfl) (by kernel_rfl) fun E => ?_
  refine R_sq Try.f70 2 3 (by kernel_rfl) ?_
  refine R_rn Try.f70 2 0 [] [] 0 ⟨[(0, vc (tl e_i64 default a1))], []⟩ o0 (by kernel_rfl) (by kernel_rfl) ?_
  refine R_sq Try.f70 6 7 (by kernel_rfl) ?_
  refine R_rn Try.f70 6 1 [] [] 0 ⟨[(0, vc (tl e_i64 default a1)), (3, vi 0)], []⟩ o0 (by kernel_rfl) (by kernel_rfl) ?_
  refine R_sq Try.f70 14 15 (by kernel_rfl) ?_
  refine R_sq Try.f70 28 29 (by kernel_rfl) ?_
  refine R_rn Try.f70 28 2 [] [] 0 ⟨[(3, vi 0), (6, vc (tl e_i64 default a1)), (7, vi ((a1.length : Nat) : Int)), (8, vi 0)], []⟩ o0 (by kernel_rfl) (by kernel_rfl) ?_
  obtain ⟨u8, h7, hm⟩ := bind_s hm
  refine R_loop1 (nd Try.f70 116) 0 (by kernel_rfl) FUEL (fun o => cmp_Or_Si64_L1_T) (fun v st => RetQ Try.prog Try.f70 (cmp_Or_Si64_x v) (cmp_Or_Si64_o v) .ret st) u8 (HL_enter (cmp_Or_Si64_L1_S a1 0) (by kernel_rfl) (by kernel_rfl) (cmp_Or_Si64_L1_ok E a1 FUEL 0 u8 h7)) ?_ ?_
  · rintro v9 rfl st hr
    obtain rfl := Option.some.inj hm
    exact hr
  · rintro o6 rfl
    replace hm : _ = some r := hm
    refine R_sq Try.f70 30 31 (by kernel_rfl) ?_
    refine R_rn Try.f70 30 8 [] [] 0 ⟨[(2, vi 0)], []⟩ o0 (by kernel_rfl) (by kernel_rfl) ?_
    obtain rfl := Option.some.inj hm
    refine R_ret (by kernel_rfl) ?_
    exact ret_mk (by kernel_rfl) (by kernel_rfl)

end Saw
end Go.SL

namespace Go.SL
namespace Saw
open Go.Proofs
set_option maxHeartbeats 4000000

def poly_within_x (r : Bool) : V := vb r

def poly_within_o (r : Bool) : List (Nat × (Nat × O)) := []

theorem poly_within_f (r : Bool) : Frozen (poly_within_o r) := by
  intro i k o h
  unfold poly_within_o at h
  cases h

def poly_within_k1_S (x3 : Bool) : St :=
  ⟨[(2, vb x3)], []⟩

set_option maxRecDepth 100000 in
theorem poly_within_ok (a1 : Int) (r : Bool) (hm : poly_within a1 = some r) : CtX Try.prog globs 75 0 0 [.one (ci a1)] [] (poly_within_x r) (poly_within_o r) := by
  unfold poly_within at hm
  refine CtX_of_E (fn := Try.f75) (c := nd Try.f75 1) (nt := 9) (by kernel_rfl) (by kernel_rfl) (by kernel_rfl) (by kernel_rfl) fun E => ?_
  refine R_sq Try.f75 2 3 (by kernel_rfl) ?_
  refine R_rn Try.f75 2 0 [] [] 0 ⟨[(0, vi a1)], []⟩ o0 (by kernel_rfl) (by kernel_rfl) ?_
  refine R_join (ι := Bool) (nd Try.f75 6) (nd Try.f75 7) (by kernel_rfl) (fun p => poly_within_k1_S p) (fun p => poly_within_k1 p = some r) ?_ ?_
  · rintro x3 hm
    show H _ (poly_within_k1_S x3) (nd Try.f75 7) _
    obtain rfl := Option.some.inj hm
    refine R_ret (by kernel_rfl) ?_
    exact ret_mk (by kernel_rfl) (by kernel_rfl)
  · rcases Bool.eq_false_or_eq_true (decide (a1 ≥ (-600))) with b2 | b2
    · replace hm := bif_t b2 hm
      refine R_rn Try.f75 6 1 [(2, dfx true)] [] 0 ⟨[(2, vb (decide (a1 ≤ 600)))], []⟩ (o1 b2) (by kernel_rfl) (by kernel_rfl) ?_
      exact J_mk (decide (a1 ≤ 600)) hm (by kernel_rfl) (by kernel_rfl)
    · replace hm := bif_f b2 hm
      refine R_rn Try.f75 6 1 [(2, dfx false)] [] 0 ⟨[(2, vb false)], []⟩ (o1 b2) (by kernel_rfl) (by kernel_rfl) ?_
      exact J_mk (false) hm (by kernel_rfl) (by kernel_rfl)

end Saw
end Go.SL

namespace Go.SL
namespace Saw
open Go.Proofs
set_option maxHeartbeats 4000000

def poly_inRange_x (r : Bool) : V := vb r

def poly_inRange_o (r : Bool) : List (Nat × (Nat × O)) := []

theorem poly_inRange_f (r : Bool) : Frozen (poly_inRange_o r) := by
  intro i k o h
  unfold poly_inRange_o at h
  cases h

def poly_inRange_k2_S (a1 : List Point) (x2 : Int) (x10 : Bool) : St :=
  ⟨[(5, vc (tl e_Point default a1)), (6, vi ((a1.length : Nat) : Int)), (7, vi x2), (20, vb x10)], []⟩

def poly_inRange_L1_S (a1 : List Point) (x2 : Int) : St :=
  ⟨[(5, vc (tl e_Point default a1)), (6, vi ((a1.length : Nat) : Int)), (7, vi x2)], []⟩

def poly_inRange_L1_T : St :=
  ⟨[], []⟩

set_option maxRecDepth 100000 in
theorem poly_inRange_L1_ok (E : Env 0) (a1 : List Point) : ∀ (n : Nat) (x2 : Int) (res : Bool ⊕ Unit), poly_inRange_L1 a1 n x2 = some res → HL (kx E 22 0) (nd Try.f66 52) (loopQ 0 (fun o => poly_inRange_L1_T) (fun v st => RetQ Try.prog Try.f66 (poly_inRange_x v) (poly_inRange_o v) .ret st) res) n (poly_inRange_L1_S a1 x2) := by
  intro n
  induction n with
  | zero =>
    intro x2 res hm
    cases hm
  | succ n ih =>
    intro x2 res hm
    refine HL_succ ?_
    refine R_sq Try.f66 104 105 (by kernel_rfl) ?_
    refine R_rn Try.f66 104 2 [] [] 0 ⟨[(5, vc (tl e_Point default a1)), (6, vi ((a1.length : Nat) : Int)), (7, vi x2), (8, vb (decide (x2 < ((a1.length : Nat) : Int))))], []⟩ o0 (by kernel_rfl) (by kernel_rfl) ?_
    refine R_sq Try.f66 210 211 (by kernel_rfl) ?_
    refine R_cn Try.f66 (.tmp 8) 420 421 (by kernel_rfl) (decide (x2 < ((a1.length : Nat) : Int))) (by kernel_rfl) (fun b3 => ?_) (fun b3 => ?_)
    · replace hm := bif_t b3 hm
      refine R_skip (by kernel_rfl) ?_
      refine R_sq Try.f66 422 423 (by kernel_rfl) ?_
      refine R_bk Try.f66 1 844 (by kernel_rfl) ?_
      refine R_sq Try.f66 1688 1689 (by kernel_rfl) ?_
      obtain ⟨g4, hm⟩ := bif_n hm
      refine R_rn Try.f66 1688 3 [] [] 0 ⟨[(4, vp 0 0), (5, vc (tl e_Point default a1)), (6, vi ((a1.length : Nat) : Int)), (7, vi x2)], [(0, bx 46 [ci ((a1.getD x2.toNat default).X), ci ((a1.getD x2.toNat default).Y)])]⟩ (o1 (inb_of g4)) (by kernel_rfl) (by kernel_rfl) ?_
      refine R_join (ι := Bool) (nd Try.f66 3378) (nd Try.f66 3379) (by kernel_rfl) (fun p => poly_inRange_k2_S a1 x2 p) (fun p => poly_inRange_k2 x2 (poly_inRange_L1 a1 n) p = some res) ?_ ?_
      · rintro x10 hm
        show H _ (poly_inRange_k2_S a1 x2 x10) (nd Try.f66 3379) _
        refine R_cn Try.f66 (.tmp 20) 6758 6759 (by kernel_rfl) x10 (by kernel_rfl) (fun b11 => ?_) (fun b11 => ?_)
        · replace hm := bif_t b11 hm
          refine R_sq Try.f66 13516 13517 (by kernel_rfl) ?_
          refine R_rn Try.f66 13516 5 [] [] 1 ⟨[(2, vb false)], []⟩ o0 (by kernel_rfl) (by kernel_rfl) ?_
          obtain rfl := Option.some.inj hm
          refine R_ret (by kernel_rfl) ?_
          refine L1_ret false ?_
          exact ret_mk (by kernel_rfl) (by kernel_rfl)
        · replace hm := bif_f b11 hm
          refine R_skip (by kernel_rfl) ?_
          refine R_rn Try.f66 423 6 [] [] 1 ⟨[(5, vc (tl e_Point default a1)), (6, vi ((a1.length : Nat) : Int)), (7, vi (w64 (x2 + 1)))], []⟩ o0 (by kernel_rfl) (by kernel_rfl) ?_
          exact HL_enter (poly_inRange_L1_S a1 (w64 (x2 + 1))) (by kernel_rfl) (by kernel_rfl) (ih (w64 (x2 + 1)) _ hm)
      · obtain ⟨v5, h6, hm⟩ := bind_s hm
        rcases Bool.eq_false_or_eq_true (!v5) with b7 | b7
        · replace hm := bif_t b7 hm
          refine R_rn Try.f66 3378 4 [(2, dex (cen [] [] 1 0 (poly_within_x v5) (poly_within_o v5) [12] [])), (4, dfx true)] [] 1 ⟨[(5, vc (tl e_Point default a1)), (6, vi ((a1.length : Nat) : Int)), (7, vi x2), (20, vb true)], []⟩ (o1 (And.intro (callS (K := (kx E 22 0)) ⟨[(12, vi ((a1.getD x2.toNat default).X))], []⟩ (opAt (rg Try.f66 3378) 2) [] [] 1 o0 rfl (poly_within_ok ((a1.getD x2.toNat default).X) v5 h6) (.inl rfl) (by kernel_rfl)) b7)) (by kernel_rfl) (by kernel_rfl) ?_
          exact J_mk (true) hm (by kernel_rfl) (by kernel_rfl)
        · replace hm := bif_f b7 hm
          obtain ⟨v8, h9, hm⟩ := bind_s hm
          refine R_rn Try.f66 3378 4 [(2, dex (cen [] [] 1 0 (poly_within_x v5) (poly_within_o v5) [12] [])), (4, dfx false), (7, dex (cen [] [] 1 0 (poly_within_x v8) (poly_within_o v8) [15, 17] []))] [] 1 ⟨[(5, vc (tl e_Point default a1)), (6, vi ((a1.length : Nat) : Int)), (7, vi x2), (16, vp 0 1), (17, vi ((a1.getD x2.toNat default).Y)), (18, vb v8), (19, vb (!v8)), (20, vb (!v8))], [(0, bx 46 [ci ((a1.getD x2.toNat default).X), ci ((a1.getD x2.toNat default).Y)])]⟩ (o1 (And.intro (callS (K := (kx E 22 0)) ⟨[(12, vi ((a1.getD x2.toNat default).X))], []⟩ (opAt (rg Try.f66 3378) 2) [] [] 1 o0 rfl (poly_within_ok ((a1.getD x2.toNat default).X) v5 h6) (.inl rfl) (by kernel_rfl)) (And.intro b7 (callS (K := (kx E 22 0)) ⟨[(15, vb false), (17, vi ((a1.getD x2.toNat default).Y))], []⟩ (opAt (rg Try.f66 3378) 7) [] [] 1 o0 rfl (poly_within_ok ((a1.getD x2.toNat default).Y) v8 h9) (.inl rfl) (by kernel_rfl))))) (by kernel_rfl) (by kernel_rfl) ?_
          exact J_mk (!v8) hm (by kernel_rfl) (by kernel_rfl)
    · replace hm := bif_f b3 hm
      refine R_exit 0 (by kernel_rfl) ?_
      obtain rfl := Option.some.inj hm
      exact L1_mk () (by kernel_rfl) (by kernel_rfl)

set_option maxRecDepth 100000 in
theorem poly_inRange_ok (a1 : List Point) (r : Bool) (hm : poly_inRange a1 = some r) : CtX Try.prog globs 66 0 0 [.one (tl e_Point default a1)] [] (poly_inRange_x r) (poly_inRange_o r) := by
  unfold poly_inRange at hm
  refine CtX_of_E (fn := Try.f66) (c := nd Try.f66 1) (nt := 22) (by kernel_rfl) (by kernel_rfl) (by kernel_rfl) (by kernel_rfl) fun E => ?_
  refine R_sq Try.f66 2 3 (by kernel_rfl) ?_
  refine R_rn Try.f66 2 0 [] [] 0 ⟨[(0, vc (tl e_Point default a1))], []⟩ o0 (by kernel_rfl) (by kernel_rfl) ?_
  refine R_sq Try.f66 6 7 (by kernel_rfl) ?_
  refine R_sq Try.f66 12 13 (by kernel_rfl) ?_
  refine R_rn Try.f66 12 1 [] [] 0 ⟨[(5, vc (tl e_Point default a1)), (6, vi ((a1.length : Nat) : Int)), (7, vi 0)], []⟩ o0 (by kernel_rfl) (by kernel_rfl) ?_
  obtain ⟨u14, h13, hm⟩ := bind_s hm
  refine R_loop1 (nd Try.f66 52) 0 (by kernel_rfl) FUEL (fun o => poly_inRange_L1_T) (fun v st => RetQ Try.prog Try.f66 (poly_inRange_x v) (poly_inRange_o v) .ret st) u14 (HL_enter (poly_inRange_L1_S a1 0) (by kernel_rfl) (by kernel_rfl) (poly_inRange_L1_ok E a1 FUEL 0 u14 h13)) ?_ ?_
  · rintro v15 rfl st hr
    obtain rfl := Option.some.inj hm
    exact hr
  · rintro o12 rfl
    replace hm : _ = some r := hm
    refine R_sq Try.f66 14 15 (by kernel_rfl) ?_
    refine R_rn Try.f66 14 7 [] [] 0 ⟨[(2, vb true)], []⟩ o0 (by kernel_rfl) (by kernel_rfl) ?_
    obtain rfl := Option.some.inj hm
    refine R_ret (by kernel_rfl) ?_
    exact ret_mk (by kernel_rfl) (by kernel_rfl)

end Saw
end Go.SL

namespace Go.SL
namespace Saw
open Go.Proofs
set_option maxHeartbeats 4000000

def poly_Area2_x (r : Int) : V := vi r

def poly_Area2_o (r : Int) : List (Nat × (Nat × O)) := []

theorem poly_Area2_f (r : Int) : Frozen (poly_Area2_o r) := by
  intro i k o h
  unfold poly_Area2_o at h
  cases h

def poly_Area2_L2_S (a1 : List Point) (x7 : Int) (x8 : Int) : St :=
  ⟨[(0, vc (tl e_Point default a1)), (3, vi x7), (15, vc (tl e_Point default a1)), (16, vi ((a1.length : Nat) : Int)), (17, vi x8)], []⟩

def poly_Area2_L2_T (x13 : Int) : St :=
  ⟨[(3, vi x13)], []⟩

def poly_Area2_k1_S (a1 : List Point) (x5 : Bool) : St :=
  ⟨[(0, vc (tl e_Point default a1)), (14, vb x5)], []⟩

set_option maxRecDepth 100000 in
theorem poly_Area2_L2_ok (E : Env 0) (a1 : List Point) : ∀ (n : Nat) (x7 : Int) (x8 : Int) (res : Int), poly_Area2_L2 a1 n x7 x8 = some res → HL (kx E 45 0) (nd Try.f78 244) (loopQ0 0 (fun o => poly_Area2_L2_T o) res) n (poly_Area2_L2_S a1 x7 x8) := by
  intro n
  induction n with
  | zero =>
    intro x7 x8 res hm
    cases hm
  | succ n ih =>
    intro x7 x8 res hm
    refine HL_succ ?_
    refine R_sq Try.f78 488 489 (by kernel_rfl) ?_
    refine R_rn Try.f78 488 5 [] [] 0 ⟨[(0, vc (tl e_Point default a1)), (3, vi x7), (15, vc (tl e_Point default a1)), (16, vi ((a1.length : Nat) : Int)), (17, vi x8), (18, vb (decide (x8 < ((a1.length : Nat) : Int))))], []⟩ o0 (by kernel_rfl) (by kernel_rfl) ?_
    refine R_sq Try.f78 978 979 (by kernel_rfl) ?_
    refine R_cn Try.f78 (.tmp 18) 1956 1957 (by kernel_rfl) (decide (x8 < ((a1.length : Nat) : Int))) (by kernel_rfl) (fun b9 => ?_) (fun b9 => ?_)
    · replace hm := bif_t b9 hm
      refine R_skip (by kernel_rfl) ?_
      refine R_sq Try.f78 1958 1959 (by kernel_rfl) ?_
      refine R_bk Try.f78 1 3916 (by kernel_rfl) ?_
      refine R_sq Try.f78 7832 7833 (by kernel_rfl) ?_
      obtain ⟨g10, hm⟩ := bif_n hm
      refine R_rn Try.f78 7832 6 [] [] 0 ⟨[(0, vc (tl e_Point default a1)), (3, vi x7), (4, vi x8), (5, vp 0 0), (15, vc (tl e_Point default a1)), (16, vi ((a1.length : Nat) : Int)), (17, vi x8)], [(0, bx 46 [ci ((a1.getD x8.toNat default).X), ci ((a1.getD x8.toNat default).Y)])]⟩ (o1 (inb_of g10)) (by kernel_rfl) (by kernel_rfl) ?_
      refine R_sq Try.f78 15666 15667 (by kernel_rfl) ?_
      obtain ⟨g11, hm⟩ := bif_n hm
      obtain ⟨g12, hm⟩ := bif_n hm
      refine R_rn Try.f78 15666 7 [] [] 1 ⟨[(0, vc (tl e_Point default a1)), (3, vi x7), (5, vp 0 0), (6, vp 1 0), (15, vc (tl e_Point default a1)), (16, vi ((a1.length : Nat) : Int)), (17, vi x8)], [(0, bx 46 [ci ((a1.getD x8.toNat default).X), ci ((a1.getD x8.toNat default).Y)]), (1, bx 46 [ci ((a1.getD (Int.tmod (w64 (x8 + 1)) ((a1.length : Nat) : Int)).toNat default).X), ci ((a1.getD (Int.tmod (w64 (x8 + 1)) ((a1.length : Nat) : Int)).toNat default).Y)])]⟩ (o1 (And.intro (nz_of g11) (inb_of g12))) (by kernel_rfl) (by kernel_rfl) ?_
      refine R_rn Try.f78 15667 8 [] [] 2 ⟨[(0, vc (tl e_Point default a1)), (3, vi (w64 (x7 + (w64 ((w64 (((a1.getD x8.toNat default).X) * ((a1.getD (Int.tmod (w64 (x8 + 1)) ((a1.length : Nat) : Int)).toNat default).Y))) - (w64 (((a1.getD (Int.tmod (w64 (x8 + 1)) ((a1.length : Nat) : Int)).toNat default).X) * ((a1.getD x8.toNat default).Y)))))))), (15, vc (tl e_Point default a1)), (16, vi ((a1.length : Nat) : Int)), (17, vi x8)], []⟩ o0 (by kernel_rfl) (by kernel_rfl) ?_
      refine R_rn Try.f78 1959 9 [] [] 2 ⟨[(0, vc (tl e_Point default a1)), (3, vi (w64 (x7 + (w64 ((w64 (((a1.getD x8.toNat default).X) * ((a1.getD (Int.tmod (w64 (x8 + 1)) ((a1.length : Nat) : Int)).toNat default).Y))) - (w64 (((a1.getD (Int.tmod (w64 (x8 + 1)) ((a1.length : Nat) : Int)).toNat default).X) * ((a1.getD x8.toNat default).Y)))))))), (15, vc (tl e_Point default a1)), (16, vi ((a1.length : Nat) : Int)), (17, vi (w64 (x8 + 1)))], []⟩ o0 (by kernel_rfl) (by kernel_rfl) ?_
      exact HL_enter (poly_Area2_L2_S a1 (w64 (x7 + (w64 ((w64 (((a1.getD x8.toNat default).X) * ((a1.getD (Int.tmod (w64 (x8 + 1)) ((a1.length : Nat) : Int)).toNat default).Y))) - (w64 (((a1.getD (Int.tmod (w64 (x8 + 1)) ((a1.length : Nat) : Int)).toNat default).X) * ((a1.getD x8.toNat default).Y))))))) (w64 (x8 + 1))) (by kernel_rfl) (by kernel_rfl) (ih (w64 (x7 + (w64 ((w64 (((a1.getD x8.toNat default).X) * ((a1.getD (Int.tmod (w64 (x8 + 1)) ((a1.length : Nat) : Int)).toNat default).Y))) - (w64 (((a1.getD (Int.tmod (w64 (x8 + 1)) ((a1.length : Nat) : Int)).toNat default).X) * ((a1.getD x8.toNat default).Y))))))) (w64 (x8 + 1)) _ hm)
    · replace hm := bif_f b9 hm
      refine R_exit 0 (by kernel_rfl) ?_
      obtain rfl := Option.some.inj hm
      exact L0_mk (by kernel_rfl) (by kernel_rfl)

set_option maxRecDepth 100000 in
theorem poly_Area2_ok (a1 : List Point) (r : Int) (hm : poly_Area2 a1 = some r) : CtX Try.prog globs 78 0 0 [.one (tl e_Point default a1)] [] (poly_Area2_x r) (poly_Area2_o r) := by
  unfold poly_Area2 at hm
  refine CtX_of_E (fn := Try.f78) (c := nd Try.f78 1) (nt := 45) (by kernel_rfl) (by kernel_rfl) (by kernel_rfl) (by kernel_rfl) fun E => ?_
  refine R_sq Try.f78 2 3 (by kernel_rfl) ?_
  refine R_rn Try.f78 2 0 [] [] 0 ⟨[(0, vc (tl e_Point default a1))], []⟩ o0 (by kernel_rfl) (by kernel_rfl) ?_
  refine R_sq Try.f78 6 7 (by kernel_rfl) ?_
  refine R_join (ι := Bool) (nd Try.f78 12) (nd Try.f78 13) (by kernel_rfl) (fun p => poly_Area2_k1_S a1 p) (fun p => poly_Area2_k1 a1 p = some r) ?_ ?_
  · rintro x5 hm
    show H _ (poly_Area2_k1_S a1 x5) (nd Try.f78 13) _
    refine R_cn Try.f78 (.tmp 14) 26 27 (by kernel_rfl) x5 (by kernel_rfl) (fun b6 => ?_) (fun b6 => ?_)
    · replace hm := bif_t b6 hm
      refine R_sq Try.f78 52 53 (by kernel_rfl) ?_
      refine R_rn Try.f78 52 2 [] [] 0 ⟨[(2, vi 0)], []⟩ o0 (by kernel_rfl) (by kernel_rfl) ?_
      obtain rfl := Option.some.inj hm
      refine R_ret (by kernel_rfl) ?_
      exact ret_mk (by kernel_rfl) (by kernel_rfl)
    · replace hm := bif_f b6 hm
      refine R_skip (by kernel_rfl) ?_
      refine R_sq Try.f78 14 15 (by kernel_rfl) ?_
      refine R_rn Try.f78 14 3 [] [] 0 ⟨[(0, vc (tl e_Point default a1)), (3, vi 0)], []⟩ o0 (by kernel_rfl) (by kernel_rfl) ?_
      refine R_sq Try.f78 30 31 (by kernel_rfl) ?_
      refine R_sq Try.f78 60 61 (by kernel_rfl) ?_
      refine R_rn Try.f78 60 4 [] [] 0 ⟨[(0, vc (tl e_Point default a1)), (3, vi 0), (15, vc (tl e_Point default a1)), (16, vi ((a1.length : Nat) : Int)), (17, vi 0)], []⟩ o0 (by kernel_rfl) (by kernel_rfl) ?_
      obtain ⟨o14, h15, hm⟩ := bind_s hm
      refine R_loop0 (nd Try.f78 244) 0 (by kernel_rfl) FUEL (fun o => poly_Area2_L2_T o) o14 (HL_enter (poly_Area2_L2_S a1 0 0) (by kernel_rfl) (by kernel_rfl) (poly_Area2_L2_ok E a1 FUEL 0 0 o14 h15)) ?_
      refine R_sq Try.f78 62 63 (by kernel_rfl) ?_
      refine R_rn Try.f78 62 10 [] [] 0 ⟨[(2, vi o14)], []⟩ o0 (by kernel_rfl) (by kernel_rfl) ?_
      obtain rfl := Option.some.inj hm
      refine R_ret (by kernel_rfl) ?_
      exact ret_mk (by kernel_rfl) (by kernel_rfl)
  · rcases Bool.eq_false_or_eq_true (decide (((a1.length : Nat) : Int) > 32)) with b2 | b2
    · replace hm := bif_t b2 hm
      refine R_rn Try.f78 12 1 [(3, dfx true)] [] 0 ⟨[(0, vc (tl e_Point default a1)), (14, vb true)], []⟩ (o1 b2) (by kernel_rfl) (by kernel_rfl) ?_
      exact J_mk (true) hm (by kernel_rfl) (by kernel_rfl)
    · replace hm := bif_f b2 hm
      obtain ⟨v3, h4, hm⟩ := bind_s hm
      refine R_rn Try.f78 12 1 [(3, dfx false), (5, dex (cen [] [] 0 0 (poly_inRange_x v3) (poly_inRange_o v3) [10, 11] []))] [] 0 ⟨[(0, vc (tl e_Point default a1)), (14, vb (!v3))], []⟩ (o1 (And.intro b2 (callS (K := (kx E 45 0)) ⟨[(10, vb false), (11, vc (tl e_Point default a1))], []⟩ (opAt (rg Try.f78 12) 5) [] [] 0 o0 rfl (poly_inRange_ok a1 v3 h4) (.inl rfl) (by kernel_rfl)))) (by kernel_rfl) (by kernel_rfl) ?_
      exact J_mk (!v3) hm (by kernel_rfl) (by kernel_rfl)

end Saw
end Go.SL

namespace Go.SL
namespace Saw
open Go.Proofs
set_option maxHeartbeats 4000000

def poly_Check_x (r : Int) : V := vi r

def poly_Check_o (r : Int) : List (Nat × (Nat × O)) := []

theorem poly_Check_f (r : Int) : Frozen (poly_Check_o r) := by
  intro i k o h
  unfold poly_Check_o at h
  cases h

set_option maxRecDepth 100000 in
theorem poly_Check_ok (a1 : List Point) (r : Int) (hm : poly_Check a1 = some r) : CtX Try.prog globs 44 0 0 [.one (tl e_Point default a1)] [] (poly_Check_x r) (poly_Check_o r) := by
  unfold poly_Check at hm
  refine CtX_of_E (fn := Try.f44) (c := nd Try.f44 1) (nt := 19) (by kernel_rfl) (by kernel_rfl) (by kernel_rfl) (by kernel_rfl) fun E => ?_
  refine R_sq Try.f44 2 3 (by kernel_rfl) ?_
  refine R_rn Try.f44 2 0 [] [] 0 ⟨[(0, vc (tl e_Point default a1))], []⟩ o0 (by kernel_rfl) (by kernel_rfl) ?_
  refine R_sq Try.f44 6 7 (by kernel_rfl) ?_
  refine R_bk Try.f44 0 12 (by kernel_rfl) ?_
  refine R_sq Try.f44 24 25 (by kernel_rfl) ?_
  refine R_rn Try.f44 24 1 [] [] 0 ⟨[(0, vc (tl e_Point default a1)), (3, vb (decide (((a1.length : Nat) : Int) < 3)))], []⟩ o0 (by kernel_rfl) (by kernel_rfl) ?_
  refine R_cn Try.f44 (.tmp 3) 50 51 (by kernel_rfl) (decide (((a1.length : Nat) : Int) < 3)) (by kernel_rfl) (fun b2 => ?_) (fun b2 => ?_)
  · replace hm := bif_t b2 hm
    refine R_sq Try.f44 100 101 (by kernel_rfl) ?_
    refine R_rn Try.f44 100 2 [] [] 0 ⟨[(2, vi 3)], []⟩ o0 (by kernel_rfl) (by kernel_rfl) ?_
    obtain rfl := Option.some.inj hm
    refine R_ret (by kernel_rfl) ?_
    exact ret_mk (by kernel_rfl) (by kernel_rfl)
  · replace hm := bif_f b2 hm
    refine R_sq Try.f44 102 103 (by kernel_rfl) ?_
    refine R_rn Try.f44 102 3 [] [] 0 ⟨[(0, vc (tl e_Point default a1)), (7, vb (decide (((a1.length : Nat) : Int) > 32)))], []⟩ o0 (by kernel_rfl) (by kernel_rfl) ?_
    refine R_cn Try.f44 (.tmp 7) 206 207 (by kernel_rfl) (decide (((a1.length : Nat) : Int) > 32)) (by kernel_rfl) (fun b3 => ?_) (fun b3 => ?_)
    · replace hm := bif_t b3 hm
      refine R_sq Try.f44 412 413 (by kernel_rfl) ?_
      refine R_rn Try.f44 412 4 [] [] 0 ⟨[(2, vi 4)], []⟩ o0 (by kernel_rfl) (by kernel_rfl) ?_
      obtain rfl := Option.some.inj hm
      refine R_ret (by kernel_rfl) ?_
      exact ret_mk (by kernel_rfl) (by kernel_rfl)
    · replace hm := bif_f b3 hm
      refine R_sq Try.f44 414 415 (by kernel_rfl) ?_
      obtain ⟨v4, h5, hm⟩ := bind_s hm
      refine R_rn Try.f44 414 5 [(1, dex (cen [] [] 0 0 (poly_inRange_x v4) (poly_inRange_o v4) [12] []))] [] 0 ⟨[(0, vc (tl e_Point default a1)), (11, vb (!v4))], []⟩ (o1 (callS (K := (kx E 19 0)) ⟨[(12, vc (tl e_Point default a1))], []⟩ (opAt (rg Try.f44 414) 1) [] [] 0 o0 rfl (poly_inRange_ok a1 v4 h5) (.inl rfl) (by kernel_rfl))) (by kernel_rfl) (by kernel_rfl) ?_
      refine R_cn Try.f44 (.tmp 11) 830 831 (by kernel_rfl) (!v4) (by kernel_rfl) (fun b6 => ?_) (fun b6 => ?_)
      · replace hm := bif_t b6 hm
        refine R_sq Try.f44 1660 1661 (by kernel_rfl) ?_
        refine R_rn Try.f44 1660 6 [] [] 0 ⟨[(2, vi 9)], []⟩ o0 (by kernel_rfl) (by kernel_rfl) ?_
        obtain rfl := Option.some.inj hm
        refine R_ret (by kernel_rfl) ?_
        exact ret_mk (by kernel_rfl) (by kernel_rfl)
      · replace hm := bif_f b6 hm
        refine R_sq Try.f44 1662 1663 (by kernel_rfl) ?_
        obtain ⟨v7, h8, hm⟩ := bind_s hm
        refine R_rn Try.f44 1662 7 [(1, dex (cen [] [] 0 0 (poly_Area2_x v7) (poly_Area2_o v7) [16] []))] [] 0 ⟨[(15, vb (v7 == 0))], []⟩ (o1 (callS (K := (kx E 19 0)) ⟨[(16, vc (tl e_Point default a1))], []⟩ (opAt (rg Try.f44 1662) 1) [] [] 0 o0 rfl (poly_Area2_ok a1 v7 h8) (.inl rfl) (by kernel_rfl))) (by kernel_rfl) (by kernel_rfl) ?_
        refine R_cn Try.f44 (.tmp 15) 3326 3327 (by kernel_rfl) (v7 == 0) (by kernel_rfl) (fun b9 => ?_) (fun b9 => ?_)
        · replace hm := bif_t b9 hm
          refine R_sq Try.f44 6652 6653 (by kernel_rfl) ?_
          refine R_rn Try.f44 6652 8 [] [] 0 ⟨[(2, vi 19)], []⟩ o0 (by kernel_rfl) (by kernel_rfl) ?_
          obtain rfl := Option.some.inj hm
          refine R_ret (by kernel_rfl) ?_
          exact ret_mk (by kernel_rfl) (by kernel_rfl)
        · replace hm := bif_f b9 hm
          refine R_skip (by kernel_rfl) ?_
          refine R_sq Try.f44 14 15 (by kernel_rfl) ?_
          refine R_rn Try.f44 14 9 [] [] 0 ⟨[(2, vi 0)], []⟩ o0 (by kernel_rfl) (by kernel_rfl) ?_
          obtain rfl := Option.some.inj hm
          refine R_ret (by kernel_rfl) ?_
          exact ret_mk (by kernel_rfl) (by kernel_rfl)

end Saw
end Go.SL

namespace Go.SL
namespace Saw
open Go.Proofs
set_option maxHeartbeats 4000000

def section_heights_x (r : Span) : V := va [ci r.A, ci r.B]

def section_heights_o (r : Span) : List (Nat × (Nat × O)) := []

theorem section_heights_f (r : Span) : Frozen (section_heights_o r) := by
  intro i k o h
  unfold section_heights_o at h
  cases h

set_option maxRecDepth 100000 in
theorem section_heights_ok (a1 : Int) (a2 : Int) (r : Span) (hm : section_heights a1 a2 = some r) : CtX Try.prog globs 47 0 0 [.one (ci a1), .one (ci a2)] [] (section_heights_x r) (section_heights_o r) := by
  unfold section_heights at hm
  refine CtX_of_E (fn := Try.f47) (c := nd Try.f47 1) (nt := 10) (by kernel_rfl) (by kernel_rfl) (by kernel_rfl) (by kernel_rfl) fun E => ?_
  refine R_sq Try.f47 2 3 (by kernel_rfl) ?_
  refine R_rn Try.f47 2 0 [] [] 0 ⟨[(0, vi a1), (1, vi a2), (4, vp 0 0)], [(0, bx 35 [ci 0, ci 0])]⟩ o0 (by kernel_rfl) (by kernel_rfl) ?_
  refine R_sq Try.f47 6 7 (by kernel_rfl) ?_
  refine R_rn Try.f47 6 1 [] [] 1 ⟨[(4, vp 0 0)], [(0, bx 35 [ci (w64 (10 * a1)), ci (w64 (10 * a2))])]⟩ o0 (by kernel_rfl) (by kernel_rfl) ?_
  obtain rfl := Option.some.inj hm
  refine R_ret (by kernel_rfl) ?_
  exact ret_mk (by kernel_rfl) (by kernel_rfl)

end Saw
end Go.SL

namespace Go.SL
namespace Saw
open Go.Proofs
set_option maxHeartbeats 4000000

def slices_Clone_SPoint_x (r : List Point) : V := vo 0 0 2 r.length

def slices_Clone_SPoint_o (r : List Point) : List (Nat × (Nat × O)) := [(0, ro 0 46 2 r.length (rf e_Point r))]

theorem slices_Clone_SPoint_f (r : List Point) : Frozen (slices_Clone_SPoint_o r) := by
  intro i k o h
  unfold slices_Clone_SPoint_o at h
  rw [look_cons] at h
  split at h
  · cases h; exact fun _ _ => rfl
  · cases h

set_option maxRecDepth 100000 in
theorem slices_Clone_SPoint_ok (a1 : List Point) (r : List Point) (hm : slices_Clone_SPoint a1 = some r) : CtX Try.prog globs 67 0 0 [.one (tl e_Point default a1)] [] (slices_Clone_SPoint_x r) (slices_Clone_SPoint_o r) := by
  unfold slices_Clone_SPoint at hm
  obtain ⟨g1, hm⟩ := bif_n hm
  obtain rfl := Option.some.inj hm
  refine CtX_of_E (fn := Try.f67) (c := nd Try.f67 1) (nt := 8) (by kernel_rfl) (by kernel_rfl) (by kernel_rfl) (by kernel_rfl) fun E => ?_
  refine R_sq Try.f67 2 3 (by kernel_rfl) ?_
  refine R_rn Try.f67 2 0 [] [] 0 ⟨[(0, vc (tl e_Point default a1))], []⟩ o0 (by kernel_rfl) (by kernel_rfl) ?_
  refine R_sq Try.f67 6 7 (by kernel_rfl) ?_
  refine R_sq Try.f67 12 13 (by kernel_rfl) ?_
  refine R_nil Try.f67 12 1 1 ⟨[(0, vc (tl e_Point default a1)), (3, vc (tl e_Point default a1))], []⟩ 29 29 46 4 (.tmp 3) a1.length (rf e_Point a1) (by kernel_rfl) (by kernel_rfl) (by kernel_rfl) (fun b hb => ?_)
  refine R_cn Try.f67 (.tmp 4) 26 27 (by kernel_rfl) b (by kernel_rfl) (fun b6 => ?_) (fun b6 => ?_)
  · obtain rfl : a1 = [] := List.eq_nil_of_length_eq_zero (hb b6)
    refine R_sq Try.f67 52 53 (by kernel_rfl) ?_
    refine R_rn Try.f67 52 2 [] [.own 2 0 46 2 (rf e_Point ([] : List Point))] 0 ⟨[(2, vo 0 0 2 0)], [(0, ro 0 46 2 0 (rf e_Point ([] : List Point)))]⟩ o0 (by kernel_rfl) (by kernel_rfl) ?_
    refine R_ret (by kernel_rfl) ?_
    exact ret_mk (by kernel_rfl) (by kernel_rfl)
  · refine R_skip (by kernel_rfl) ?_
    refine R_sq Try.f67 14 15 (by kernel_rfl) ?_
    refine R_rn Try.f67 14 3 [(0, drw 0 0 (rf e_Point ([] : List Point))), (2, drw 0 1 (rf e_Point ([] ++ a1)))] [.len 0 a1.length] 0 ⟨[(2, vo 0 1 2 a1.length)], [(0, ro 1 46 2 a1.length (rf e_Point ([] ++ a1)))]⟩ (o1 (And.intro (And.intro (litP e_Point default 2 (fun _ => rfl) ([] : List Point) 0 rfl) (apP e_Point default ([] : List Point) a1 0 a1.length 2 16 True trivial rfl rfl (fun _ => rfl) (by have := room_of g1; rw [Nat.zero_add]; exact this))) (And.intro (And.intro (Nat.zero_add a1.length) (Nat.zero_add a1.length)) (Nat.zero_add a1.length)))) (by kernel_rfl) (by kernel_rfl) ?_
    refine R_ret (by kernel_rfl) ?_
    exact ret_mk (by kernel_rfl) (by kernel_rfl)

end Saw
end Go.SL

namespace Go.SL
namespace Saw
open Go.Proofs
set_option maxHeartbeats 4000000

def poly_Hull_1_x (r : Int) : V := vi r

def poly_Hull_1_o (r : Int) : List (Nat × (Nat × O)) := []

theorem poly_Hull_1_f (r : Int) : Frozen (poly_Hull_1_o r) := by
  intro i k o h
  unfold poly_Hull_1_o at h
  cases h

set_option maxRecDepth 100000 in
theorem poly_Hull_1_ok (a1 : Point) (a2 : Point) (r : Int) (hm : poly_Hull_1 a1 a2 = some r) : CtX Try.prog globs 69 0 0 [.agg [ci a1.X, ci a1.Y], .agg [ci a2.X, ci a2.Y]] [] (poly_Hull_1_x r) (poly_Hull_1_o r) := by
  unfold poly_Hull_1 at hm
  refine CtX_of_E (fn := Try.f69) (c := nd Try.f69 1) (nt := 17) (by kernel_rfl) (by kernel_rfl) (by kernel_rfl) (by kernel_rfl) fun E => ?_
  refine R_sq Try.f69 2 3 (by kernel_rfl) ?_
  refine R_rn Try.f69 2 0 [] [] 0 ⟨[(2, vp 0 0), (3, vp 1 0)], [(0, bx 46 [ci a1.X, ci a1.Y]), (1, bx 46 [ci a2.X, ci a2.Y])]⟩ o0 (by kernel_rfl) (by kernel_rfl) ?_
  refine R_sq Try.f69 6 7 (by kernel_rfl) ?_
  obtain ⟨v3, h4, hm⟩ := bind_s hm
  obtain ⟨v5, h6, hm⟩ := bind_s hm
  obtain ⟨v7, h8, hm⟩ := bind_s hm
  refine R_dr Try.f69 6 1 [] [(4, dex (cen [] [] 2 0 (cmp_Compare_i64_x v3) (cmp_Compare_i64_o v3) [6, 8] [])), (9, dex (cen [] [] 2 0 (cmp_Compare_i64_x v5) (cmp_Compare_i64_o v5) [11, 13] [])), (10, drw 2 0 (rf e_i64 ([v3, v5] : List Int))), (11, dex (cen [] [] 3 0 (cmp_Or_Si64_x v7) (cmp_Or_Si64_o v7) [15] [2]))] [] [0, 1, 0, 4, 15, 0, 32, 0, 128, 511, 1023, 2047, 4095] 2 ⟨[(4, vi v7)], []⟩ (o1 (And.intro (callS (K := (kx E 17 0)) ⟨[(6, vi a1.X), (8, vi a2.X)], []⟩ (opAt (rg Try.f69 6) 4) [] [] 2 o0 rfl (cmp_Compare_i64_ok a1.X a2.X v3 h4) (.inl rfl) (by kernel_rfl)) (And.intro (callS (K := (kx E 17 0)) ⟨[(11, vi a1.Y), (13, vi a2.Y)], []⟩ (opAt (rg Try.f69 6) 9) [] [] 2 o0 rfl (cmp_Compare_i64_ok a1.Y a2.Y v5 h6) (.inl rfl) (by kernel_rfl)) (And.intro (litP e_i64 default 1 (fun _ => rfl) ([v3, v5] : List Int) 2 rfl) (callS (K := (kx E 17 0)) (xs' := [.one (.lst 2 (rf e_i64 ([v3, v5] : List Int)))]) (b := false) ⟨[(15, vo 2 0 1 2)], [(2, ro 0 3 1 2 (rf e_i64 ([v3, v5] : List Int)))]⟩ (opAt (rg Try.f69 6) 11) [] [] 3 (o1 (Nat.le_refl 2)) (by simp only [tl, rf, show ([v3, v5] : List Int).length = 2 from rfl]) (cmp_Or_Si64_ok ([v3, v5] : List Int) v7 h8) (.inr ⟨(by kernel_rfl), cmp_Or_Si64_f v7⟩) (by kernel_rfl)))))) (by kernel_rfl) (by kernel_rfl) ?_
  obtain rfl := Option.some.inj hm
  refine R_ret (by kernel_rfl) ?_
  exact ret_mk (by kernel_rfl) (by kernel_rfl)

end Saw
end Go.SL

namespace Go.SL
namespace Saw
open Go.Proofs
set_option maxHeartbeats 4000000

def slices_SortFunc_SPoint_x (a1 : List Point) (r : List Point) : V := .undef

def slices_SortFunc_SPoint_o (a1 : List Point) (r : List Point) : List (Nat × (Nat × O)) := [(0, ro 0 46 2 r.length (rf e_Point r))]

theorem slices_SortFunc_SPoint_f (a1 : List Point) (r : List Point) : Frozen (slices_SortFunc_SPoint_o a1 r) := by
  intro i k o h
  unfold slices_SortFunc_SPoint_o at h
  rw [look_cons] at h
  split at h
  · cases h; exact fun _ _ => rfl
  · cases h

theorem lfB {α:Type} {o:Option α} {a b:α} (h:o=some a) (e:a=b:=by kernel_rfl):o=some b:=h.trans (congrArg some e)
def slices_SortFunc_SPoint_lay_ren :Go.Shelf.Ren:=⟨fun |6=>68|15=>87|14=>86|28=>100|29=>101|20=>92|21=>93|22=>94|23=>95|24=>96|25=>97|26=>98|27=>99|46=>104|47=>105|48=>106|49=>107|50=>108|57=>109|n=>n,fun |22=>29|24=>46|25=>72|3=>3|39=>85|0=>0|53=>96|55=>81|4=>4|46=>89|45=>88|50=>93|5=>5|9=>9|66=>98|70=>102|76=>104|77=>78|n=>n,fun n=>n⟩
theorem slices_SortFunc_SPoint_lay : Go.Proofs.SlLaysF0.n6 Try.prog slices_SortFunc_SPoint_lay_ren :={mixed:=by kernel_rfl,f6:=⟨Try.f68.name,by decide,lfB Try.func68⟩,f14:=⟨Try.f86.name,by decide,lfB Try.func86⟩,f15:=lfB Try.func87,f20:=⟨Try.f92.name,by decide,lfB Try.func92⟩,f21:=⟨Try.f93.name,by decide,lfB Try.func93⟩,f22:=⟨Try.f94.name,by decide,lfB Try.func94⟩,f23:=⟨Try.f95.name,by decide,lfB Try.func95⟩,f24:=⟨Try.f96.name,by decide,lfB Try.func96⟩,f25:=⟨Try.f97.name,by decide,lfB Try.func97⟩,f26:=⟨Try.f98.name,by decide,lfB Try.func98⟩,f27:=⟨Try.f99.name,by decide,lfB Try.func99⟩,f28:=lfB Try.func100,f29:=lfB Try.func101,f46:=⟨Try.f104.name,by decide,lfB Try.func104⟩,f47:=lfB Try.func105,f48:=lfB Try.func106,f49:=⟨Try.f107.name,by decide,lfB Try.func107⟩,f50:=⟨Try.f108.name,by decide,lfB Try.func108⟩,f57:=⟨Try.f109.name,by decide,lfB Try.func109⟩,t0:=Try.underlying0,a0:=Try.isAgg0,z0:=Try.sizeOf0,v0:=Try.zeroValue0,t3:=Try.underlying3,a3:=Try.isAgg3,z3:=Try.sizeOf3,v3:=Try.zeroValue3,t4:=Try.underlying4,a4:=Try.isAgg4,z4:=Try.sizeOf4,v4:=Try.zeroValue4,t5:=Try.underlying5,a5:=Try.isAgg5,z5:=Try.sizeOf5,v5:=Try.zeroValue5,t9:=Try.underlying9,a9:=Try.isAgg9,z9:=Try.sizeOf9,v9:=Try.zeroValue9,t22:=Try.underlying29,a22:=Try.isAgg29,z22:=Try.sizeOf29,v22:=Try.zeroValue29,t25:=Try.underlying72,a25:=Try.isAgg72,z25:=Try.sizeOf72,v25:=Try.zeroValue72,t39:=Try.underlying85,a39:=Try.isAgg85,z39:=Try.sizeOf85,v39:=Try.zeroValue85,t45:=Try.underlying88,a45:=Try.isAgg88,z45:=Try.sizeOf88,v45:=Try.zeroValue88,t46:=Try.underlying89,a46:=Try.isAgg89,z46:=Try.sizeOf89,v46:=Try.zeroValue89,t50:=Try.underlying93,a50:=Try.isAgg93,z50:=Try.sizeOf93,v50:=Try.zeroValue93,t53:=Try.underlying96,a53:=Try.isAgg96,z53:=Try.sizeOf96,v53:=Try.zeroValue96,t55:=Try.underlying81,a55:=Try.isAgg81,z55:=Try.sizeOf81,v55:=Try.zeroValue81,t66:=Try.underlying98,a66:=Try.isAgg98,z66:=Try.sizeOf98,v66:=Try.zeroValue98,t70:=Try.underlying102,a70:=Try.isAgg102,z70:=Try.sizeOf102,v70:=Try.zeroValue102,t76:=Try.underlying104,a76:=Try.isAgg104,z76:=Try.sizeOf104,v76:=Try.zeroValue104,t77:=Try.underlying78,a77:=Try.isAgg78,z77:=Try.sizeOf78,v77:=Try.zeroValue78}

def encV_Point (p : Point) : List Value := [.int .i64 p.X, .int .i64 p.Y]
theorem slices_SortFunc_SPoint_swo : Go.Sort.SWO (ltOf cmpPt) where
  irrefl x := by unfold ltOf cmpPt; simp
  trans x y z h1 h2 := by
    rw [ltPt] at *
    simp only [decide_eq_true_eq] at *
    omega
  ntrans x y z h1 h2 := by
    rw [ltPt] at *
    simp only [decide_eq_false_iff_not] at *
    omega
theorem slices_SortFunc_SPoint_anti (x y : Point) (h1 : ltOf cmpPt x y = false) (h2 : ltOf cmpPt y x = false) : x = y := by
  rw [ltPt] at *
  simp only [decide_eq_false_iff_not] at *
  cases x; cases y
  simp only [Point.mk.injEq] at *
  omega
theorem slices_SortFunc_SPoint_ok (a1 : List Point) (r : List Point) (hm : slices_SortFunc_SPoint a1 = some r) : CtX Try.prog globs 68 1 1 [.one (.own 0 0 2 a1.length), .one (.fn 69 [])] [(0, ro 0 46 2 a1.length (rf e_Point a1))] (slices_SortFunc_SPoint_x a1 r) (slices_SortFunc_SPoint_o a1 r) := by
  unfold slices_SortFunc_SPoint at hm
  obtain ⟨g1, hm⟩ := bif_n hm
  obtain rfl := Option.some.inj hm
  have hs := sortOk_of g1
  have eg : ∀ args w, (callFunc 69 args).run Try.prog w = .ok (.enter 69 args) w := enters_of Try.func69 (by kernel_rfl) rfl
  exact CtX_sort (gl := globs) slices_SortFunc_SPoint_lay 2 Try.isAgg46 Try.sizeOf46 encV_Point (fun _ => rfl) (fun x v hv => by simp [encV_Point] at hv; rcases hv with rfl | rfl <;> rfl) poly_Hull_1 cmpPt poly_Hull_1_eq slices_SortFunc_SPoint_swo slices_SortFunc_SPoint_anti 69 46 eg (fun x y => poly_Hull_1_ok x y _ (poly_Hull_1_eq x y)) a1 hs.1 hs.2


end Saw
end Go.SL

namespace Go.SL
namespace Saw
open Go.Proofs
set_option maxHeartbeats 4000000

def slices_Compact_SPoint_x (a1 : List Point) (r : (List Point) × (List Point)) : V := vo 0 0 2 r.2.length

def slices_Compact_SPoint_o (a1 : List Point) (r : (List Point) × (List Point)) : List (Nat × (Nat × O)) := [(0, ro 0 46 2 r.2.length (rf e_Point r.2))]

theorem slices_Compact_SPoint_f (a1 : List Point) (r : (List Point) × (List Point)) : Frozen (slices_Compact_SPoint_o a1 r) := by
  intro i k o h
  unfold slices_Compact_SPoint_o at h
  rw [look_cons] at h
  split at h
  · cases h; exact fun _ _ => rfl
  · cases h

def slices_Compact_SPoint_k3_S (l3 : List Point) (x4 : Int) (x12 : Int) (l19 : List Point) (l19n : Nat) (x20 : Int) : St :=
  ⟨[(0, vo 0 0 2 l19n), (3, vi x20), (4, vc (.sub 0 0 2 x4.toNat (l3.length - x4.toNat))), (5, vi x12)], [(0, ro 0 46 2 l19n (rf e_Point l19))]⟩

def slices_Compact_SPoint_L2_S (l3 : List Point) (x4 : Int) (l10 : List Point) (l10n : Nat) (x11 : Int) (x12 : Int) : St :=
  ⟨[(0, vo 0 0 2 l10n), (3, vi x11), (4, vc (.sub 0 0 2 x4.toNat (l3.length - x4.toNat))), (5, vi x12)], [(0, ro 0 46 2 l10n (rf e_Point l10))]⟩

def slices_Compact_SPoint_L2_T (l21 : List Point) (x22 : Int) : St :=
  ⟨[(0, vo 0 0 2 l21.length), (3, vi x22)], [(0, ro 0 46 2 l21.length (rf e_Point l21))]⟩

def slices_Compact_SPoint_L1_S (l3 : List Point) (l3n : Nat) (x4 : Int) : St :=
  ⟨[(0, vo 0 0 2 l3n), (3, vi x4)], [(0, ro 0 46 2 l3n (rf e_Point l3))]⟩

def slices_Compact_SPoint_L1_T (l27 : List Point) : St :=
  ⟨[(0, vo 0 0 2 l27.length)], [(0, ro 0 46 2 l27.length (rf e_Point l27))]⟩

set_option maxRecDepth 100000 in
theorem slices_Compact_SPoint_L2_ok (E : Env 1) (l3 : List Point) (x4 : Int) : ∀ (n : Nat) (l10 : List Point) (l10n : Nat) (x11 : Int) (x12 : Int) (res : (List Point) × Int), l10.length = l10n → slices_Compact_SPoint_L2 l3 x4 n l10 x11 x12 = some res → HL (kx E 61 1) (nd Try.f72 119380) (loopQ0 2 (fun o => slices_Compact_SPoint_L2_T o.1 o.2) res) n (slices_Compact_SPoint_L2_S l3 x4 l10 l10n x11 x12) := by
  intro n
  induction n with
  | zero =>
    intro l10 l10n x11 x12 res hl0 hm
    cases hm
  | succ n ih =>
    intro l10 l10n x11 x12 res hl0 hm
    subst hl0
    refine HL_succ ?_
    refine R_sq Try.f72 238760 238761 (by kernel_rfl) ?_
    refine R_sq Try.f72 477520 477521 (by kernel_rfl) ?_
    refine R_rn Try.f72 477520 9 [] [] 1 ⟨[(0, vo 0 0 2 l10.length), (3, vi x11), (4, vc (.sub 0 0 2 x4.toNat (l3.length - x4.toNat))), (5, vi x12), (32, vb (decide (x12 < (((l3.length - x4.toNat) : Nat) : Int))))], [(0, ro 0 46 2 l10.length (rf e_Point l10))]⟩ o0 (by kernel_rfl) (by kernel_rfl) ?_
    refine R_cn Try.f72 (.tmp 32) 955042 955043 (by kernel_rfl) (decide (x12 < (((l3.length - x4.toNat) : Nat) : Int))) (by kernel_rfl) (fun b13 => ?_) (fun b13 => ?_)
    · replace hm := bif_t b13 hm
      refine R_skip (by kernel_rfl) ?_
      refine R_join (ι := (List Point) × Nat × Int) (nd Try.f72 477522) (nd Try.f72 477523) (by kernel_rfl) (fun p => slices_Compact_SPoint_k3_S l3 x4 x12 p.1 p.2.1 p.2.2) (fun p => p.1.length = p.2.1 ∧ slices_Compact_SPoint_k3 x12 (slices_Compact_SPoint_L2 l3 x4 n) p.1 p.2.2 = some res) ?_ ?_
      · rintro ⟨l19, l19n, x20⟩ ⟨el19, hm⟩
        replace el19 : l19.length = l19n := el19
        subst el19
        show H _ (slices_Compact_SPoint_k3_S l3 x4 x12 l19 l19.length x20) (nd Try.f72 477523) _
        refine R_rn Try.f72 477523 10 [] [] 1 ⟨[(0, vo 0 0 2 l19.length), (3, vi x20), (4, vc (.sub 0 0 2 x4.toNat (l3.length - x4.toNat))), (5, vi (w64 (x12 + 1)))], [(0, ro 0 46 2 l19.length (rf e_Point l19))]⟩ o0 (by kernel_rfl) (by kernel_rfl) ?_
        exact HL_enter (slices_Compact_SPoint_L2_S l3 x4 l19 l19.length x20 (w64 (x12 + 1))) (by kernel_rfl) (by kernel_rfl) (ih l19 l19.length x20 (w64 (x12 + 1)) _ rfl hm)
      · refine R_bk Try.f72 3 955044 (by kernel_rfl) ?_
        refine R_sq Try.f72 1910088 1910089 (by kernel_rfl) ?_
        obtain ⟨g14, hm⟩ := bif_n hm
        obtain ⟨g15, hm⟩ := bif_n hm
        obtain ⟨g16, hm⟩ := bif_n hm
        refine R_dr Try.f72 1910088 11 [] [] [] [0, 0, 3, 7, 0, 0, 32, 112, 240, 511] 1 ⟨[(0, vo 0 0 2 l10.length), (3, vi x11), (4, vc (.sub 0 0 2 x4.toNat (l3.length - x4.toNat))), (5, vi x12), (44, vb (!((((l10.getD (x4.toNat + x12.toNat) default).X) == ((l10.getD (x4.toNat + ((w64 (x12 - 1)).toNat)) default).X)) && ((((l10.getD (x4.toNat + x12.toNat) default).Y) == ((l10.getD (x4.toNat + ((w64 (x12 - 1)).toNat)) default).Y)) && true))))], [(0, ro 0 46 2 l10.length (rf e_Point l10))]⟩ (o1 (And.intro (inb_of g14) (And.intro (Nat.lt_of_lt_of_le (Nat.add_lt_add_left (toNat_lt (inb_of g14)) x4.toNat) (Nat.le_of_ble_eq_true g15)) (And.intro (inb_of g16) (Nat.lt_of_lt_of_le (Nat.add_lt_add_left (toNat_lt (inb_of g16)) x4.toNat) (Nat.le_of_ble_eq_true g15)))))) (by kernel_rfl) (by kernel_rfl) ?_
        refine R_cn Try.f72 (.tmp 44) 3820178 3820179 (by kernel_rfl) (!((((l10.getD (x4.toNat + x12.toNat) default).X) == ((l10.getD (x4.toNat + ((w64 (x12 - 1)).toNat)) default).X)) && ((((l10.getD (x4.toNat + x12.toNat) default).Y) == ((l10.getD (x4.toNat + ((w64 (x12 - 1)).toNat)) default).Y)) && true))) (by kernel_rfl) (fun b17 => ?_) (fun b17 => ?_)
        · replace hm := bif_t b17 hm
          refine R_sq Try.f72 7640356 7640357 (by kernel_rfl) ?_
          obtain ⟨g18, hm⟩ := bif_n hm
          refine R_rn Try.f72 7640356 12 [(7, drw 0 0 (rf e_Point (l10.set x11.toNat (l10.getD (x4.toNat + x12.toNat) default))))] [] 1 ⟨[(0, vo 0 0 2 l10.length), (3, vi x11), (4, vc (.sub 0 0 2 x4.toNat (l3.length - x4.toNat))), (5, vi x12)], [(0, ro 0 46 2 l10.length (rf e_Point (l10.set x11.toNat (l10.getD (x4.toNat + x12.toNat) default))))]⟩ (o1 (And.intro (inb_of g14) (And.intro (Nat.lt_of_lt_of_le (Nat.add_lt_add_left (toNat_lt (inb_of g14)) x4.toNat) (Nat.le_of_ble_eq_true g15)) (And.intro (inb_of g18) (stP e_Point default (l10.getD (x4.toNat + x12.toNat) default) l10 l10.length x11.toNat 0 [ci ((l10.getD (x4.toNat + x12.toNat) default).X), ci ((l10.getD (x4.toNat + x12.toNat) default).Y)] rfl (toNat_lt (inb_of g18)) rfl))))) (by kernel_rfl) (by kernel_rfl) ?_
          refine R_rn Try.f72 7640357 13 [] [] 1 ⟨[(0, vo 0 0 2 l10.length), (3, vi (w64 (x11 + 1))), (4, vc (.sub 0 0 2 x4.toNat (l3.length - x4.toNat))), (5, vi x12)], [(0, ro 0 46 2 l10.length (rf e_Point (l10.set x11.toNat (l10.getD (x4.toNat + x12.toNat) default))))]⟩ o0 (by kernel_rfl) (by kernel_rfl) ?_
          exact J_mk ((l10.set x11.toNat (l10.getD (x4.toNat + x12.toNat) default)), l10.length, w64 (x11 + 1)) ⟨(len_set rfl), hm⟩ (by kernel_rfl) (by kernel_rfl)
        · replace hm := bif_f b17 hm
          refine R_skip (by kernel_rfl) ?_
          exact J_mk (l10, l10.length, x11) ⟨rfl, hm⟩ (by kernel_rfl) (by kernel_rfl)
    · replace hm := bif_f b13 hm
      refine R_exit 2 (by kernel_rfl) ?_
      obtain rfl := Option.some.inj hm
      exact L0_mk (by kernel_rfl) (by kernel_rfl)

set_option maxRecDepth 100000 in
theorem slices_Compact_SPoint_L1_ok (E : Env 1) (a1 : List Point) : ∀ (n : Nat) (l3 : List Point) (l3n : Nat) (x4 : Int) (res : ((List Point) × (List Point)) ⊕ (List Point)), l3.length = l3n → slices_Compact_SPoint_L1 n l3 x4 = some res → HL (kx E 61 1) (nd Try.f72 116) (loopQ 0 (fun o => slices_Compact_SPoint_L1_T o) (fun v st => RetQ Try.prog Try.f72 (slices_Compact_SPoint_x a1 v) (slices_Compact_SPoint_o a1 v) .ret st) res) n (slices_Compact_SPoint_L1_S l3 l3n x4) := by
  intro n
  induction n with
  | zero =>
    intro l3 l3n x4 res hl0 hm
    cases hm
  | succ n ih =>
    intro l3 l3n x4 res hl0 hm
    subst hl0
    refine HL_succ ?_
    refine R_sq Try.f72 232 233 (by kernel_rfl) ?_
    refine R_sq Try.f72 464 465 (by kernel_rfl) ?_
    refine R_rn Try.f72 464 4 [] [] 1 ⟨[(0, vo 0 0 2 l3.length), (3, vi x4), (13, vb (decide (x4 < ((l3.length : Nat) : Int))))], [(0, ro 0 46 2 l3.length (rf e_Point l3))]⟩ o0 (by kernel_rfl) (by kernel_rfl) ?_
    refine R_cn Try.f72 (.tmp 13) 930 931 (by kernel_rfl) (decide (x4 < ((l3.length : Nat) : Int))) (by kernel_rfl) (fun b5 => ?_) (fun b5 => ?_)
    · replace hm := bif_t b5 hm
      refine R_skip (by kernel_rfl) ?_
      refine R_sq Try.f72 466 467 (by kernel_rfl) ?_
      refine R_bk Try.f72 1 932 (by kernel_rfl) ?_
      refine R_sq Try.f72 1864 1865 (by kernel_rfl) ?_
      obtain ⟨g6, hm⟩ := bif_n hm
      obtain ⟨g7, hm⟩ := bif_n hm
      refine R_dr Try.f72 1864 6 [] [] [] [0, 0, 3, 7, 0, 0, 32, 112, 240, 511] 1 ⟨[(0, vo 0 0 2 l3.length), (3, vi x4), (25, vb ((((l3.getD x4.toNat default).X) == ((l3.getD ((w64 (x4 - 1)).toNat) default).X)) && ((((l3.getD x4.toNat default).Y) == ((l3.getD ((w64 (x4 - 1)).toNat) default).Y)) && true)))], [(0, ro 0 46 2 l3.length (rf e_Point l3))]⟩ (o1 (And.intro (inb_of g6) (And.intro (toNat_lt (inb_of g6)) (And.intro (inb_of g7) (toNat_lt (inb_of g7)))))) (by kernel_rfl) (by kernel_rfl) ?_
      refine R_cn Try.f72 (.tmp 25) 3730 3731 (by kernel_rfl) ((((l3.getD x4.toNat default).X) == ((l3.getD ((w64 (x4 - 1)).toNat) default).X)) && ((((l3.getD x4.toNat default).Y) == ((l3.getD ((w64 (x4 - 1)).toNat) default).Y)) && true)) (by kernel_rfl) (fun b8 => ?_) (fun b8 => ?_)
      · replace hm := bif_t b8 hm
        refine R_sq Try.f72 7460 7461 (by kernel_rfl) ?_
        obtain ⟨g9, hm⟩ := bif_n hm
        refine R_rn Try.f72 7460 7 [] [] 1 ⟨[(0, vo 0 0 2 l3.length), (3, vi x4), (4, vc (.sub 0 0 2 x4.toNat (l3.length - x4.toNat)))], [(0, ro 0 46 2 l3.length (rf e_Point l3))]⟩ (o1 (And.intro (slOk_of g9).1 (slOk_of g9).2.1)) (by kernel_rfl) (by kernel_rfl) ?_
        refine R_sq Try.f72 14922 14923 (by kernel_rfl) ?_
        refine R_sq Try.f72 29844 29845 (by kernel_rfl) ?_
        refine R_rn Try.f72 29844 8 [] [] 1 ⟨[(0, vo 0 0 2 l3.length), (3, vi x4), (4, vc (.sub 0 0 2 x4.toNat (l3.length - x4.toNat))), (5, vi 1)], [(0, ro 0 46 2 l3.length (rf e_Point l3))]⟩ o0 (by kernel_rfl) (by kernel_rfl) ?_
        obtain ⟨o23, h24, hm⟩ := bind_s hm
        refine R_loop0 (nd Try.f72 119380) 2 (by kernel_rfl) FUEL (fun o => slices_Compact_SPoint_L2_T o.1 o.2) o23 (HL_enter (slices_Compact_SPoint_L2_S l3 x4 l3 l3.length x4 1) (by kernel_rfl) (by kernel_rfl) (slices_Compact_SPoint_L2_ok E l3 x4 FUEL l3 l3.length x4 1 o23 rfl h24)) ?_
        refine R_sq Try.f72 29846 29847 (by kernel_rfl) ?_
        obtain ⟨g25, hm⟩ := bif_n hm
        refine R_rn Try.f72 29846 14 [(3, drw 0 0 (rf e_Point o23.1))] [.row 0 o23.2.toNat (rf e_Point (o23.1.take o23.2.toNat))] 1 ⟨[(0, vo 0 0 2 o23.1.length), (3, vi o23.2)], [(0, ro 0 46 2 o23.2.toNat (rf e_Point (o23.1.take o23.2.toNat)))]⟩ (o1 (And.intro (And.intro (And.intro (slOk_of g25).1 (slOk_of g25).2.1) (show o23.2.toNat + (o23.1.length - o23.2.toNat) ≤ o23.1.length by have := (slOk_of g25); omega)) (tkP e_Point default o23.1 o23.2.toNat o23.2.toNat (Nat.le_refl _)))) (by kernel_rfl) (by kernel_rfl) ?_
        refine R_sq Try.f72 59694 59695 (by kernel_rfl) ?_
        obtain ⟨g26, hm⟩ := bif_n hm
        refine R_rn Try.f72 59694 15 [] [] 1 ⟨[(2, vo 0 0 2 o23.2.toNat)], [(0, ro 0 46 2 o23.2.toNat (rf e_Point (o23.1.take o23.2.toNat)))]⟩ (o1 (And.intro (slOk_of g26).2.1 (slOk_of g26).2.2)) (by kernel_rfl) (by kernel_rfl) ?_
        refine H_fin [.len 0 ((o23.1.take o23.2.toNat).length)] ⟨[(2, vo 0 0 2 ((o23.1.take o23.2.toNat).length))], [(0, ro 0 46 2 ((o23.1.take o23.2.toNat).length) (rf e_Point (o23.1.take o23.2.toNat)))]⟩ (o1 (And.intro (Eq.symm (show (o23.1.take o23.2.toNat).length = o23.2.toNat from (len_take rfl (Nat.le_trans (Nat.le_add_right _ _) (show o23.2.toNat + (o23.1.length - o23.2.toNat) ≤ o23.1.length by have := (slOk_of g25); omega))))) (Eq.symm (show (o23.1.take o23.2.toNat).length = o23.2.toNat from (len_take rfl (Nat.le_trans (Nat.le_add_right _ _) (show o23.2.toNat + (o23.1.length - o23.2.toNat) ≤ o23.1.length by have := (slOk_of g25); omega))))))) (by kernel_rfl) ?_
        obtain rfl := Option.some.inj hm
        refine R_ret (by kernel_rfl) ?_
        refine L1_ret ((o23.1.take o23.2.toNat), (o23.1.take o23.2.toNat)) ?_
        exact ret_mk (by kernel_rfl) (by kernel_rfl)
      · replace hm := bif_f b8 hm
        refine R_skip (by kernel_rfl) ?_
        refine R_rn Try.f72 467 5 [] [] 1 ⟨[(0, vo 0 0 2 l3.length), (3, vi (w64 (x4 + 1)))], [(0, ro 0 46 2 l3.length (rf e_Point l3))]⟩ o0 (by kernel_rfl) (by kernel_rfl) ?_
        exact HL_enter (slices_Compact_SPoint_L1_S l3 l3.length (w64 (x4 + 1))) (by kernel_rfl) (by kernel_rfl) (ih l3 l3.length (w64 (x4 + 1)) _ rfl hm)
    · replace hm := bif_f b5 hm
      refine R_exit 0 (by kernel_rfl) ?_
      obtain rfl := Option.some.inj hm
      exact L1_mk l3 (by kernel_rfl) (by kernel_rfl)

set_option maxRecDepth 100000 in
theorem slices_Compact_SPoint_ok (a1 : List Point) (r : (List Point) × (List Point)) (hm : slices_Compact_SPoint a1 = some r) : CtX Try.prog globs 72 1 1 [.one (.own 0 0 2 a1.length)] [(0, ro 0 46 2 a1.length (rf e_Point a1))] (slices_Compact_SPoint_x a1 r) (slices_Compact_SPoint_o a1 r) := by
  unfold slices_Compact_SPoint at hm
  refine CtX_of_E (fn := Try.f72) (c := nd Try.f72 1) (nt := 61) (by kernel_rfl) (by kernel_rfl) (by kernel_rfl) (by kernel_rfl) fun E => ?_
  refine R_sq Try.f72 2 3 (by kernel_rfl) ?_
  refine R_rn Try.f72 2 0 [] [] 1 ⟨[(0, vo 0 0 2 a1.length)], [(0, ro 0 46 2 a1.length (rf e_Point a1))]⟩ o0 (by kernel_rfl) (by kernel_rfl) ?_
  refine R_sq Try.f72 6 7 (by kernel_rfl) ?_
  refine R_sq Try.f72 12 13 (by kernel_rfl) ?_
  refine R_rn Try.f72 12 1 [] [] 1 ⟨[(0, vo 0 0 2 a1.length), (8, vb (decide (((a1.length : Nat) : Int) < 2)))], [(0, ro 0 46 2 a1.length (rf e_Point a1))]⟩ o0 (by kernel_rfl) (by kernel_rfl) ?_
  refine R_cn Try.f72 (.tmp 8) 26 27 (by kernel_rfl) (decide (((a1.length : Nat) : Int) < 2)) (by kernel_rfl) (fun b2 => ?_) (fun b2 => ?_)
  · replace hm := bif_t b2 hm
    refine R_sq Try.f72 52 53 (by kernel_rfl) ?_
    refine R_rn Try.f72 52 2 [] [] 1 ⟨[(2, vo 0 0 2 a1.length)], [(0, ro 0 46 2 a1.length (rf e_Point a1))]⟩ o0 (by kernel_rfl) (by kernel_rfl) ?_
    obtain rfl := Option.some.inj hm
    refine R_ret (by kernel_rfl) ?_
    exact ret_mk (by kernel_rfl) (by kernel_rfl)
  · replace hm := bif_f b2 hm
    refine R_skip (by kernel_rfl) ?_
    refine R_sq Try.f72 14 15 (by kernel_rfl) ?_
    refine R_sq Try.f72 28 29 (by kernel_rfl) ?_
    refine R_rn Try.f72 28 3 [] [] 1 ⟨[(0, vo 0 0 2 a1.length), (3, vi 1)], [(0, ro 0 46 2 a1.length (rf e_Point a1))]⟩ o0 (by kernel_rfl) (by kernel_rfl) ?_
    obtain ⟨u30, h29, hm⟩ := bind_s hm
    refine R_loop1 (nd Try.f72 116) 0 (by kernel_rfl) FUEL (fun o => slices_Compact_SPoint_L1_T o) (fun v st => RetQ Try.prog Try.f72 (slices_Compact_SPoint_x a1 v) (slices_Compact_SPoint_o a1 v) .ret st) u30 (HL_enter (slices_Compact_SPoint_L1_S a1 a1.length 1) (by kernel_rfl) (by kernel_rfl) (slices_Compact_SPoint_L1_ok E a1 FUEL a1 a1.length 1 u30 rfl h29)) ?_ ?_
    · rintro v31 rfl st hr
      obtain rfl := Option.some.inj hm
      exact hr
    · rintro o28 rfl
      replace hm : _ = some r := hm
      refine R_sq Try.f72 30 31 (by kernel_rfl) ?_
      refine R_rn Try.f72 30 16 [] [] 1 ⟨[(2, vo 0 0 2 o28.length)], [(0, ro 0 46 2 o28.length (rf e_Point o28))]⟩ o0 (by kernel_rfl) (by kernel_rfl) ?_
      obtain rfl := Option.some.inj hm
      refine R_ret (by kernel_rfl) ?_
      exact ret_mk (by kernel_rfl) (by kernel_rfl)

end Saw
end Go.SL

namespace Go.SL
namespace Saw
open Go.Proofs
set_option maxHeartbeats 4000000

def poly_cross_x (r : Int) : V := vi r

def poly_cross_o (r : Int) : List (Nat × (Nat × O)) := []

theorem poly_cross_f (r : Int) : Frozen (poly_cross_o r) := by
  intro i k o h
  unfold poly_cross_o at h
  cases h

set_option maxRecDepth 100000 in
theorem poly_cross_ok (a1 : Point) (a2 : Point) (a3 : Point) (r : Int) (hm : poly_cross a1 a2 a3 = some r) : CtX Try.prog globs 77 0 0 [.agg [ci a1.X, ci a1.Y], .agg [ci a2.X, ci a2.Y], .agg [ci a3.X, ci a3.Y]] [] (poly_cross_x r) (poly_cross_o r) := by
  unfold poly_cross at hm
  refine CtX_of_E (fn := Try.f77) (c := nd Try.f77 1) (nt := 30) (by kernel_rfl) (by kernel_rfl) (by kernel_rfl) (by kernel_rfl) fun E => ?_
  refine R_sq Try.f77 2 3 (by kernel_rfl) ?_
  refine R_rn Try.f77 2 0 [] [] 0 ⟨[(3, vp 0 0), (4, vp 1 0), (5, vp 2 0)], [(0, bx 46 [ci a1.X, ci a1.Y]), (1, bx 46 [ci a2.X, ci a2.Y]), (2, bx 46 [ci a3.X, ci a3.Y])]⟩ o0 (by kernel_rfl) (by kernel_rfl) ?_
  refine R_sq Try.f77 6 7 (by kernel_rfl) ?_
  refine R_rn Try.f77 6 1 [] [] 3 ⟨[(6, vi (w64 ((w64 ((w64 (a2.X - a1.X)) * (w64 (a3.Y - a1.Y)))) - (w64 ((w64 (a3.X - a1.X)) * (w64 (a2.Y - a1.Y)))))))], []⟩ o0 (by kernel_rfl) (by kernel_rfl) ?_
  obtain rfl := Option.some.inj hm
  refine R_ret (by kernel_rfl) ?_
  exact ret_mk (by kernel_rfl) (by kernel_rfl)

end Saw
end Go.SL
