import Derived.Test.YtcppgjcniljkcaaDoorPBase
set_option linter.unusedVariables false
set_option linter.unusedSimpArgs false
namespace Go.SL
namespace Saw
open Go.Proofs
set_option maxHeartbeats 4000000

def cmp_isNaN_i64_x (r : Bool) : V := vb r

def cmp_isNaN_i64_o (r : Bool) : List (Nat × (Nat × O)) := []

theorem cmp_isNaN_i64_f (r : Bool) : Frozen (cmp_isNaN_i64_o r) := by
  intro i k o h
  unfold cmp_isNaN_i64_o at h
  cases h

set_option maxRecDepth 100000 in
theorem cmp_isNaN_i64_ok (a1 : Int) (r : Bool) (hm : cmp_isNaN_i64 a1 = some r) : CtX Tryd.prog globs 59 0 0 [.one (ci a1)] [] (cmp_isNaN_i64_x r) (cmp_isNaN_i64_o r) := by
  unfold cmp_isNaN_i64 at hm
  refine CtX_of_E (fn := Tryd.f59) (c := nd Tryd.f59 1) (nt := 6) (by kernel_rfl) (by kernel_rfl) (by kernel_rfl) (by kernel_rfl) fun E => ?_
  refine R_sq Tryd.f59 2 3 (by kernel_rfl) ?_
  refine R_rn Tryd.f59 2 0 [] [] 0 ⟨[(0, vi a1)], []⟩ o0 (by kernel_rfl) (by kernel_rfl) ?_
  refine R_sq Tryd.f59 6 7 (by kernel_rfl) ?_
  refine R_rn Tryd.f59 6 1 [] [] 0 ⟨[(2, vb (a1 != a1))], []⟩ o0 (by kernel_rfl) (by kernel_rfl) ?_
  obtain rfl := Option.some.inj hm
  refine R_ret (by kernel_rfl) ?_
  exact ret_mk (by kernel_rfl) (by kernel_rfl)

end Saw
end Go.SL

namespace Go.SL
namespace Saw
open Go.Proofs
set_option maxHeartbeats 4000000

def cmp_Compare_i64_x (r : Int) : V := vi r

def cmp_Compare_i64_o (r : Int) : List (Nat × (Nat × O)) := []

theorem cmp_Compare_i64_f (r : Int) : Frozen (cmp_Compare_i64_o r) := by
  intro i k o h
  unfold cmp_Compare_i64_o at h
  cases h

set_option maxRecDepth 100000 in
theorem cmp_Compare_i64_ok (a1 : Int) (a2 : Int) (r : Int) (hm : cmp_Compare_i64 a1 a2 = some r) : CtX Tryd.prog globs 48 0 0 [.one (ci a1), .one (ci a2)] [] (cmp_Compare_i64_x r) (cmp_Compare_i64_o r) := by
  unfold cmp_Compare_i64 at hm
  refine CtX_of_E (fn := Tryd.f48) (c := nd Tryd.f48 1) (nt := 20) (by kernel_rfl) (by kernel_rfl) (by kernel_rfl) (by kernel_rfl) fun E => ?_
  refine R_sq Tryd.f48 2 3 (by kernel_rfl) ?_
  refine R_rn Tryd.f48 2 0 [] [] 0 ⟨[(0, vi a1), (1, vi a2)], []⟩ o0 (by kernel_rfl) (by kernel_rfl) ?_
  refine R_sq Tryd.f48 6 7 (by kernel_rfl) ?_
  obtain ⟨v3, h4, hm⟩ := bind_s hm
  refine R_rn Tryd.f48 6 1 [(1, dex (cen [] [] 0 0 (cmp_isNaN_i64_x v3) (cmp_isNaN_i64_o v3) [7] []))] [] 0 ⟨[(0, vi a1), (1, vi a2), (5, vb v3)], []⟩ (o1 (callS (K := (kx E 20 0)) ⟨[(7, vi a1)], []⟩ (opAt (rg Tryd.f48 6) 1) [] [] 0 o0 rfl (cmp_isNaN_i64_ok a1 v3 h4) (.inl rfl) (by kernel_rfl))) (by kernel_rfl) (by kernel_rfl) ?_
  refine R_sq Tryd.f48 14 15 (by kernel_rfl) ?_
  obtain ⟨v5, h6, hm⟩ := bind_s hm
  refine R_rn Tryd.f48 14 2 [(1, dex (cen [] [] 0 0 (cmp_isNaN_i64_x v5) (cmp_isNaN_i64_o v5) [9] []))] [] 0 ⟨[(0, vi a1), (1, vi a2), (5, vb v3), (6, vb v5)], []⟩ (o1 (callS (K := (kx E 20 0)) ⟨[(9, vi a2)], []⟩ (opAt (rg Tryd.f48 14) 1) [] [] 0 o0 rfl (cmp_isNaN_i64_ok a2 v5 h6) (.inl rfl) (by kernel_rfl))) (by kernel_rfl) (by kernel_rfl) ?_
  refine R_sq Tryd.f48 30 31 (by kernel_rfl) ?_
  refine R_sq Tryd.f48 60 61 (by kernel_rfl) ?_
  refine R_rn Tryd.f48 60 3 [] [] 0 ⟨[(0, vi a1), (1, vi a2), (6, vb v5), (11, vb v3)], []⟩ o0 (by kernel_rfl) (by kernel_rfl) ?_
  refine R_cn Tryd.f48 (.tmp 11) 122 123 (by kernel_rfl) v3 (by kernel_rfl) (fun b7 => ?_) (fun b7 => ?_)
  · replace hm := bif_t b7 hm
    refine R_sq Tryd.f48 244 245 (by kernel_rfl) ?_
    refine R_sq Tryd.f48 488 489 (by kernel_rfl) ?_
    refine R_rn Tryd.f48 488 4 [] [] 0 ⟨[(12, vb v5)], []⟩ o0 (by kernel_rfl) (by kernel_rfl) ?_
    refine R_cn Tryd.f48 (.tmp 12) 978 979 (by kernel_rfl) v5 (by kernel_rfl) (fun b8 => ?_) (fun b8 => ?_)
    · replace hm := bif_t b8 hm
      refine R_sq Tryd.f48 1956 1957 (by kernel_rfl) ?_
      refine R_rn Tryd.f48 1956 5 [] [] 0 ⟨[(4, vi 0)], []⟩ o0 (by kernel_rfl) (by kernel_rfl) ?_
      obtain rfl := Option.some.inj hm
      refine R_ret (by kernel_rfl) ?_
      exact ret_mk (by kernel_rfl) (by kernel_rfl)
    · replace hm := bif_f b8 hm
      refine R_skip (by kernel_rfl) ?_
      refine R_sq Tryd.f48 490 491 (by kernel_rfl) ?_
      refine R_rn Tryd.f48 490 6 [] [] 0 ⟨[(4, vi (-1))], []⟩ o0 (by kernel_rfl) (by kernel_rfl) ?_
      obtain rfl := Option.some.inj hm
      refine R_ret (by kernel_rfl) ?_
      exact ret_mk (by kernel_rfl) (by kernel_rfl)
  · replace hm := bif_f b7 hm
    refine R_skip (by kernel_rfl) ?_
    refine R_sq Tryd.f48 62 63 (by kernel_rfl) ?_
    refine R_sq Tryd.f48 124 125 (by kernel_rfl) ?_
    refine R_rn Tryd.f48 124 7 [] [] 0 ⟨[(0, vi a1), (1, vi a2), (13, vb v5)], []⟩ o0 (by kernel_rfl) (by kernel_rfl) ?_
    refine R_cn Tryd.f48 (.tmp 13) 250 251 (by kernel_rfl) v5 (by kernel_rfl) (fun b9 => ?_) (fun b9 => ?_)
    · replace hm := bif_t b9 hm
      refine R_sq Tryd.f48 500 501 (by kernel_rfl) ?_
      refine R_rn Tryd.f48 500 8 [] [] 0 ⟨[(4, vi 1)], []⟩ o0 (by kernel_rfl) (by kernel_rfl) ?_
      obtain rfl := Option.some.inj hm
      refine R_ret (by kernel_rfl) ?_
      exact ret_mk (by kernel_rfl) (by kernel_rfl)
    · replace hm := bif_f b9 hm
      refine R_skip (by kernel_rfl) ?_
      refine R_sq Tryd.f48 126 127 (by kernel_rfl) ?_
      refine R_sq Tryd.f48 252 253 (by kernel_rfl) ?_
      refine R_rn Tryd.f48 252 9 [] [] 0 ⟨[(0, vi a1), (1, vi a2), (16, vb (decide (a1 < a2)))], []⟩ o0 (by kernel_rfl) (by kernel_rfl) ?_
      refine R_cn Tryd.f48 (.tmp 16) 506 507 (by kernel_rfl) (decide (a1 < a2)) (by kernel_rfl) (fun b10 => ?_) (fun b10 => ?_)
      · replace hm := bif_t b10 hm
        refine R_sq Tryd.f48 1012 1013 (by kernel_rfl) ?_
        refine R_rn Tryd.f48 1012 10 [] [] 0 ⟨[(4, vi (-1))], []⟩ o0 (by kernel_rfl) (by kernel_rfl) ?_
        obtain rfl := Option.some.inj hm
        refine R_ret (by kernel_rfl) ?_
        exact ret_mk (by kernel_rfl) (by kernel_rfl)
      · replace hm := bif_f b10 hm
        refine R_skip (by kernel_rfl) ?_
        refine R_sq Tryd.f48 254 255 (by kernel_rfl) ?_
        refine R_sq Tryd.f48 508 509 (by kernel_rfl) ?_
        refine R_rn Tryd.f48 508 11 [] [] 0 ⟨[(19, vb (decide (a1 > a2)))], []⟩ o0 (by kernel_rfl) (by kernel_rfl) ?_
        refine R_cn Tryd.f48 (.tmp 19) 1018 1019 (by kernel_rfl) (decide (a1 > a2)) (by kernel_rfl) (fun b11 => ?_) (fun b11 => ?_)
        · replace hm := bif_t b11 hm
          refine R_sq Tryd.f48 2036 2037 (by kernel_rfl) ?_
          refine R_rn Tryd.f48 2036 12 [] [] 0 ⟨[(4, vi 1)], []⟩ o0 (by kernel_rfl) (by kernel_rfl) ?_
          obtain rfl := Option.some.inj hm
          refine R_ret (by kernel_rfl) ?_
          exact ret_mk (by kernel_rfl) (by kernel_rfl)
        · replace hm := bif_f b11 hm
          refine R_skip (by kernel_rfl) ?_
          refine R_sq Tryd.f48 510 511 (by kernel_rfl) ?_
          refine R_rn Tryd.f48 510 13 [] [] 0 ⟨[(4, vi 0)], []⟩ o0 (by kernel_rfl) (by kernel_rfl) ?_
          obtain rfl := Option.some.inj hm
          refine R_ret (by kernel_rfl) ?_
          exact ret_mk (by kernel_rfl) (by kernel_rfl)

end Saw
end Go.SL

namespace Go.SL
namespace Saw
open Go.Proofs
set_option maxHeartbeats 4000000

def cmp_Or_Si64_x (r : Int) : V := vi r

def cmp_Or_Si64_o (r : Int) : List (Nat × (Nat × O)) := []

theorem cmp_Or_Si64_f (r : Int) : Frozen (cmp_Or_Si64_o r) := by
  intro i k o h
  unfold cmp_Or_Si64_o at h
  cases h

def cmp_Or_Si64_L1_S (a1 : List Int) (x2 : Int) : St :=
  ⟨[(3, vi 0), (6, vc (tl e_i64 default a1)), (7, vi ((a1.length : Nat) : Int)), (8, vi x2)], []⟩

def cmp_Or_Si64_L1_T : St :=
  ⟨[(3, vi 0)], []⟩

set_option maxRecDepth 100000 in
theorem cmp_Or_Si64_L1_ok (E : Env 0) (a1 : List Int) : ∀ (n : Nat) (x2 : Int) (res : Int ⊕ Unit), cmp_Or_Si64_L1 a1 n x2 = some res → HL (kx E 18 0) (nd Tryd.f47 116) (loopQ 0 (fun o => cmp_Or_Si64_L1_T) (fun v st => RetQ Tryd.prog Tryd.f47 (cmp_Or_Si64_x v) (cmp_Or_Si64_o v) .ret st) res) n (cmp_Or_Si64_L1_S a1 x2) := by
  intro n
  induction n with
  | zero =>
    intro x2 res hm
    cases hm
  | succ n ih =>
    intro x2 res hm
    refine HL_succ ?_
    refine R_sq Tryd.f47 232 233 (by kernel_rfl) ?_
    refine R_rn Tryd.f47 232 3 [] [] 0 ⟨[(3, vi 0), (6, vc (tl e_i64 default a1)), (7, vi ((a1.length : Nat) : Int)), (8, vi x2), (9, vb (decide (x2 < ((a1.length : Nat) : Int))))], []⟩ o0 (by kernel_rfl) (by kernel_rfl) ?_
    refine R_sq Tryd.f47 466 467 (by kernel_rfl) ?_
    refine R_cn Tryd.f47 (.tmp 9) 932 933 (by kernel_rfl) (decide (x2 < ((a1.length : Nat) : Int))) (by kernel_rfl) (fun b3 => ?_) (fun b3 => ?_)
    · replace hm := bif_t b3 hm
      refine R_skip (by kernel_rfl) ?_
      refine R_sq Tryd.f47 934 935 (by kernel_rfl) ?_
      refine R_bk Tryd.f47 1 1868 (by kernel_rfl) ?_
      refine R_sq Tryd.f47 3736 3737 (by kernel_rfl) ?_
      obtain ⟨g4, hm⟩ := bif_n hm
      refine R_rn Tryd.f47 3736 4 [] [] 0 ⟨[(3, vi 0), (5, vi (a1.getD x2.toNat default)), (6, vc (tl e_i64 default a1)), (7, vi ((a1.length : Nat) : Int)), (8, vi x2)], []⟩ (o1 (inb_of g4)) (by kernel_rfl) (by kernel_rfl) ?_
      refine R_sq Tryd.f47 7474 7475 (by kernel_rfl) ?_
      refine R_rn Tryd.f47 7474 5 [] [] 0 ⟨[(3, vi 0), (5, vi (a1.getD x2.toNat default)), (6, vc (tl e_i64 default a1)), (7, vi ((a1.length : Nat) : Int)), (8, vi x2), (14, vb ((a1.getD x2.toNat default) != 0))], []⟩ o0 (by kernel_rfl) (by kernel_rfl) ?_
      refine R_cn Tryd.f47 (.tmp 14) 14950 14951 (by kernel_rfl) ((a1.getD x2.toNat default) != 0) (by kernel_rfl) (fun b5 => ?_) (fun b5 => ?_)
      · replace hm := bif_t b5 hm
        refine R_sq Tryd.f47 29900 29901 (by kernel_rfl) ?_
        refine R_rn Tryd.f47 29900 6 [] [] 0 ⟨[(2, vi (a1.getD x2.toNat default))], []⟩ o0 (by kernel_rfl) (by kernel_rfl) ?_
        obtain rfl := Option.some.inj hm
        refine R_ret (by kernel_rfl) ?_
        refine L1_ret (a1.getD x2.toNat default) ?_
        exact ret_mk (by kernel_rfl) (by kernel_rfl)
      · replace hm := bif_f b5 hm
        refine R_skip (by kernel_rfl) ?_
        refine R_rn Tryd.f47 935 7 [] [] 0 ⟨[(3, vi 0), (6, vc (tl e_i64 default a1)), (7, vi ((a1.length : Nat) : Int)), (8, vi (w64 (x2 + 1)))], []⟩ o0 (by kernel_rfl) (by kernel_rfl) ?_
        exact HL_enter (cmp_Or_Si64_L1_S a1 (w64 (x2 + 1))) (by kernel_rfl) (by kernel_rfl) (ih (w64 (x2 + 1)) _ hm)
    · replace hm := bif_f b3 hm
      refine R_exit 0 (by kernel_rfl) ?_
      obtain rfl := Option.some.inj hm
      exact L1_mk () (by kernel_rfl) (by kernel_rfl)

set_option maxRecDepth 100000 in
theorem cmp_Or_Si64_ok (a1 : List Int) (r : Int) (hm : cmp_Or_Si64 a1 = some r) : CtX Tryd.prog globs 47 0 0 [.one (tl e_i64 default a1)] [] (cmp_Or_Si64_x r) (cmp_Or_Si64_o r) := by
  unfold cmp_Or_Si64 at hm
  refine CtX_of_E (fn := Tryd.f47) (c := nd Tryd.f47 1) (nt := 18) (by kernel_rfl) (by kernel_rfl) (by kernel_rfl) (by kernel_rfl) fun E => ?_
  refine R_sq Tryd.f47 2 3 (by kernel_rfl) ?_
  refine R_rn Tryd.f47 2 0 [] [] 0 ⟨[(0, vc (tl e_i64 default a1))], []⟩ o0 (by kernel_rfl) (by kernel_rfl) ?_
  refine R_sq Tryd.f47 6 7 (by kernel_rfl) ?_
  refine R_rn Tryd.f47 6 1 [] [] 0 ⟨[(0, vc (tl e_i64 default a1)), (3, vi 0)], []⟩ o0 (by kernel_rfl) (by kernel_rfl) ?_
  refine R_sq Tryd.f47 14 15 (by kernel_rfl) ?_
  refine R_sq Tryd.f47 28 29 (by kernel_rfl) ?_
  refine R_rn Tryd.f47 28 2 [] [] 0 ⟨[(3, vi 0), (6, vc (tl e_i64 default a1)), (7, vi ((a1.length : Nat) : Int)), (8, vi 0)], []⟩ o0 (by kernel_rfl) (by kernel_rfl) ?_
  obtain ⟨u8, h7, hm⟩ := bind_s hm
  refine R_loop1 (nd Tryd.f47 116) 0 (by kernel_rfl) FUEL (fun o => cmp_Or_Si64_L1_T) (fun v st => RetQ Tryd.prog Tryd.f47 (cmp_Or_Si64_x v) (cmp_Or_Si64_o v) .ret st) u8 (HL_enter (cmp_Or_Si64_L1_S a1 0) (by kernel_rfl) (by kernel_rfl) (cmp_Or_Si64_L1_ok E a1 FUEL 0 u8 h7)) ?_ ?_
  · rintro v9 rfl st hr
    obtain rfl := Option.some.inj hm
    exact hr
  · rintro o6 rfl
    replace hm : _ = some r := hm
    refine R_sq Tryd.f47 30 31 (by kernel_rfl) ?_
    refine R_rn Tryd.f47 30 8 [] [] 0 ⟨[(2, vi 0)], []⟩ o0 (by kernel_rfl) (by kernel_rfl) ?_
    obtain rfl := Option.some.inj hm
    refine R_ret (by kernel_rfl) ?_
    exact ret_mk (by kernel_rfl) (by kernel_rfl)

end Saw
end Go.SL

namespace Go.SL
namespace Saw
open Go.Proofs
set_option maxHeartbeats 4000000

def poly_within_x (r : Bool) : V := vb r

def poly_within_o (r : Bool) : List (Nat × (Nat × O)) := []

theorem poly_within_f (r : Bool) : Frozen (poly_within_o r) := by
  intro i k o h
  unfold poly_within_o at h
  cases h

def poly_within_k1_S (x3 : Bool) : St :=
  ⟨[(2, vb x3)], []⟩

set_option maxRecDepth 100000 in
theorem poly_within_ok (a1 : Int) (r : Bool) (hm : poly_within a1 = some r) : CtX Tryd.prog globs 41 0 0 [.one (ci a1)] [] (poly_within_x r) (poly_within_o r) := by
  unfold poly_within at hm
  refine CtX_of_E (fn := Tryd.f41) (c := nd Tryd.f41 1) (nt := 9) (by kernel_rfl) (by kernel_rfl) (by kernel_rfl) (by kernel_rfl) fun E => ?_
  refine R_sq Tryd.f41 2 3 (by kernel_rfl) ?_
  refine R_rn Tryd.f41 2 0 [] [] 0 ⟨[(0, vi a1)], []⟩ o0 (by kernel_rfl) (by kernel_rfl) ?_
  refine R_join (ι := Bool) (nd Tryd.f41 6) (nd Tryd.f41 7) (by kernel_rfl) (fun p => poly_within_k1_S p) (fun p => poly_within_k1 p = some r) ?_ ?_
  · rintro x3 hm
    show H _ (poly_within_k1_S x3) (nd Tryd.f41 7) _
    obtain rfl := Option.some.inj hm
    refine R_ret (by kernel_rfl) ?_
    exact ret_mk (by kernel_rfl) (by kernel_rfl)
  · rcases Bool.eq_false_or_eq_true (decide (a1 ≥ (-600))) with b2 | b2
    · replace hm := bif_t b2 hm
      refine R_rn Tryd.f41 6 1 [(2, dfx true)] [] 0 ⟨[(2, vb (decide (a1 ≤ 600)))], []⟩ (o1 b2) (by kernel_rfl) (by kernel_rfl) ?_
      exact J_mk (decide (a1 ≤ 600)) hm (by kernel_rfl) (by kernel_rfl)
    · replace hm := bif_f b2 hm
      refine R_rn Tryd.f41 6 1 [(2, dfx false)] [] 0 ⟨[(2, vb false)], []⟩ (o1 b2) (by kernel_rfl) (by kernel_rfl) ?_
      exact J_mk (false) hm (by kernel_rfl) (by kernel_rfl)

end Saw
end Go.SL

namespace Go.SL
namespace Saw
open Go.Proofs
set_option maxHeartbeats 4000000

def poly_inRange_x (r : Bool) : V := vb r

def poly_inRange_o (r : Bool) : List (Nat × (Nat × O)) := []

theorem poly_inRange_f (r : Bool) : Frozen (poly_inRange_o r) := by
  intro i k o h
  unfold poly_inRange_o at h
  cases h

def poly_inRange_k2_S (a1 : List Point) (x2 : Int) (x10 : Bool) : St :=
  ⟨[(5, vc (tl e_Point default a1)), (6, vi ((a1.length : Nat) : Int)), (7, vi x2), (20, vb x10)], []⟩

def poly_inRange_L1_S (a1 : List Point) (x2 : Int) : St :=
  ⟨[(5, vc (tl e_Point default a1)), (6, vi ((a1.length : Nat) : Int)), (7, vi x2)], []⟩

def poly_inRange_L1_T : St :=
  ⟨[], []⟩

set_option maxRecDepth 100000 in
theorem poly_inRange_L1_ok (E : Env 0) (a1 : List Point) : ∀ (n : Nat) (x2 : Int) (res : Bool ⊕ Unit), poly_inRange_L1 a1 n x2 = some res → HL (kx E 22 0) (nd Tryd.f37 52) (loopQ 0 (fun o => poly_inRange_L1_T) (fun v st => RetQ Tryd.prog Tryd.f37 (poly_inRange_x v) (poly_inRange_o v) .ret st) res) n (poly_inRange_L1_S a1 x2) := by
  intro n
  induction n with
  | zero =>
    intro x2 res hm
    cases hm
  | succ n ih =>
    intro x2 res hm
    refine HL_succ ?_
    refine R_sq Tryd.f37 104 105 (by kernel_rfl) ?_
    refine R_rn Tryd.f37 104 2 [] [] 0 ⟨[(5, vc (tl e_Point default a1)), (6, vi ((a1.length : Nat) : Int)), (7, vi x2), (8, vb (decide (x2 < ((a1.length : Nat) : Int))))], []⟩ o0 (by kernel_rfl) (by kernel_rfl) ?_
    refine R_sq Tryd.f37 210 211 (by kernel_rfl) ?_
    refine R_cn Tryd.f37 (.tmp 8) 420 421 (by kernel_rfl) (decide (x2 < ((a1.length : Nat) : Int))) (by kernel_rfl) (fun b3 => ?_) (fun b3 => ?_)
    · replace hm := bif_t b3 hm
      refine R_skip (by kernel_rfl) ?_
      refine R_sq Tryd.f37 422 423 (by kernel_rfl) ?_
      refine R_bk Tryd.f37 1 844 (by kernel_rfl) ?_
      refine R_sq Tryd.f37 1688 1689 (by kernel_rfl) ?_
      obtain ⟨g4, hm⟩ := bif_n hm
      refine R_rn Tryd.f37 1688 3 [] [] 0 ⟨[(4, vp 0 0), (5, vc (tl e_Point default a1)), (6, vi ((a1.length : Nat) : Int)), (7, vi x2)], [(0, bx 38 [ci ((a1.getD x2.toNat default).X), ci ((a1.getD x2.toNat default).Y)])]⟩ (o1 (inb_of g4)) (by kernel_rfl) (by kernel_rfl) ?_
      refine R_join (ι := Bool) (nd Tryd.f37 3378) (nd Tryd.f37 3379) (by kernel_rfl) (fun p => poly_inRange_k2_S a1 x2 p) (fun p => poly_inRange_k2 x2 (poly_inRange_L1 a1 n) p = some res) ?_ ?_
      · rintro x10 hm
        show H _ (poly_inRange_k2_S a1 x2 x10) (nd Tryd.f37 3379) _
        refine R_cn Tryd.f37 (.tmp 20) 6758 6759 (by kernel_rfl) x10 (by kernel_rfl) (fun b11 => ?_) (fun b11 => ?_)
        · replace hm := bif_t b11 hm
          refine R_sq Tryd.f37 13516 13517 (by kernel_rfl) ?_
          refine R_rn Tryd.f37 13516 5 [] [] 1 ⟨[(2, vb false)], []⟩ o0 (by kernel_rfl) (by kernel_rfl) ?_
          obtain rfl := Option.some.inj hm
          refine R_ret (by kernel_rfl) ?_
          refine L1_ret false ?_
          exact ret_mk (by kernel_rfl) (by kernel_rfl)
        · replace hm := bif_f b11 hm
          refine R_skip (by kernel_rfl) ?_
          refine R_rn Tryd.f37 423 6 [] [] 1 ⟨[(5, vc (tl e_Point default a1)), (6, vi ((a1.length : Nat) : Int)), (7, vi (w64 (x2 + 1)))], []⟩ o0 (by kernel_rfl) (by kernel_rfl) ?_
          exact HL_enter (poly_inRange_L1_S a1 (w64 (x2 + 1))) (by kernel_rfl) (by kernel_rfl) (ih (w64 (x2 + 1)) _ hm)
      · obtain ⟨v5, h6, hm⟩ := bind_s hm
        rcases Bool.eq_false_or_eq_true (!v5) with b7 | b7
        · replace hm := bif_t b7 hm
          refine R_rn Tryd.f37 3378 4 [(2, dex (cen [] [] 1 0 (poly_within_x v5) (poly_within_o v5) [12] [])), (4, dfx true)] [] 1 ⟨[(5, vc (tl e_Point default a1)), (6, vi ((a1.length : Nat) : Int)), (7, vi x2), (20, vb true)], []⟩ (o1 (And.intro (callS (K := (kx E 22 0)) ⟨[(12, vi ((a1.getD x2.toNat default).X))], []⟩ (opAt (rg Tryd.f37 3378) 2) [] [] 1 o0 rfl (poly_within_ok ((a1.getD x2.toNat default).X) v5 h6) (.inl rfl) (by kernel_rfl)) b7)) (by kernel_rfl) (by kernel_rfl) ?_
          exact J_mk (true) hm (by kernel_rfl) (by kernel_rfl)
        · replace hm := bif_f b7 hm
          obtain ⟨v8, h9, hm⟩ := bind_s hm
          refine R_rn Tryd.f37 3378 4 [(2, dex (cen [] [] 1 0 (poly_within_x v5) (poly_within_o v5) [12] [])), (4, dfx false), (7, dex (cen [] [] 1 0 (poly_within_x v8) (poly_within_o v8) [15, 17] []))] [] 1 ⟨[(5, vc (tl e_Point default a1)), (6, vi ((a1.length : Nat) : Int)), (7, vi x2), (16, vp 0 1), (17, vi ((a1.getD x2.toNat default).Y)), (18, vb v8), (19, vb (!v8)), (20, vb (!v8))], [(0, bx 38 [ci ((a1.getD x2.toNat default).X), ci ((a1.getD x2.toNat default).Y)])]⟩ (o1 (And.intro (callS (K := (kx E 22 0)) ⟨[(12, vi ((a1.getD x2.toNat default).X))], []⟩ (opAt (rg Tryd.f37 3378) 2) [] [] 1 o0 rfl (poly_within_ok ((a1.getD x2.toNat default).X) v5 h6) (.inl rfl) (by kernel_rfl)) (And.intro b7 (callS (K := (kx E 22 0)) ⟨[(15, vb false), (17, vi ((a1.getD x2.toNat default).Y))], []⟩ (opAt (rg Tryd.f37 3378) 7) [] [] 1 o0 rfl (poly_within_ok ((a1.getD x2.toNat default).Y) v8 h9) (.inl rfl) (by kernel_rfl))))) (by kernel_rfl) (by kernel_rfl) ?_
          exact J_mk (!v8) hm (by kernel_rfl) (by kernel_rfl)
    · replace hm := bif_f b3 hm
      refine R_exit 0 (by kernel_rfl) ?_
      obtain rfl := Option.some.inj hm
      exact L1_mk () (by kernel_rfl) (by kernel_rfl)

set_option maxRecDepth 100000 in
theorem poly_inRange_ok (a1 : List Point) (r : Bool) (hm : poly_inRange a1 = some r) : CtX Tryd.prog globs 37 0 0 [.one (tl e_Point default a1)] [] (poly_inRange_x r) (poly_inRange_o r) := by
  unfold poly_inRange at hm
  refine CtX_of_E (fn := Tryd.f37) (c := nd Tryd.f37 1) (nt := 22) (by kernel_rfl) (by kernel_rfl) (by kernel_rfl) (by kernel_rfl) fun E => ?_
  refine R_sq Tryd.f37 2 3 (by kernel_rfl) ?_
  refine R_rn Tryd.f37 2 0 [] [] 0 ⟨[(0, vc (tl e_Point default a1))], []⟩ o0 (by kernel_rfl) (by kernel_rfl) ?_
  refine R_sq Tryd.f37 6 7 (by kernel_rfl) ?_
  refine R_sq Tryd.f37 12 13 (by kernel_rfl) ?_
  refine R_rn Tryd.f37 12 1 [] [] 0 ⟨[(5, vc (tl e_Point default a1)), (6, vi ((a1.length : Nat) : Int)), (7, vi 0)], []⟩ o0 (by kernel_rfl) (by kernel_rfl) ?_
  obtain ⟨u14, h13, hm⟩ := bind_s hm
  refine R_loop1 (nd Tryd.f37 52) 0 (by kernel_rfl) FUEL (fun o => poly_inRange_L1_T) (fun v st => RetQ Tryd.prog Tryd.f37 (poly_inRange_x v) (poly_inRange_o v) .ret st) u14 (HL_enter (poly_inRange_L1_S a1 0) (by kernel_rfl) (by kernel_rfl) (poly_inRange_L1_ok E a1 FUEL 0 u14 h13)) ?_ ?_
  · rintro v15 rfl st hr
    obtain rfl := Option.some.inj hm
    exact hr
  · rintro o12 rfl
    replace hm : _ = some r := hm
    refine R_sq Tryd.f37 14 15 (by kernel_rfl) ?_
    refine R_rn Tryd.f37 14 7 [] [] 0 ⟨[(2, vb true)], []⟩ o0 (by kernel_rfl) (by kernel_rfl) ?_
    obtain rfl := Option.some.inj hm
    refine R_ret (by kernel_rfl) ?_
    exact ret_mk (by kernel_rfl) (by kernel_rfl)

end Saw
end Go.SL

namespace Go.SL
namespace Saw
open Go.Proofs
set_option maxHeartbeats 4000000

def poly_Area2_x (r : Int) : V := vi r

def poly_Area2_o (r : Int) : List (Nat × (Nat × O)) := []

theorem poly_Area2_f (r : Int) : Frozen (poly_Area2_o r) := by
  intro i k o h
  unfold poly_Area2_o at h
  cases h

def poly_Area2_L2_S (a1 : List Point) (x7 : Int) (x8 : Int) : St :=
  ⟨[(0, vc (tl e_Point default a1)), (3, vi x7), (15, vc (tl e_Point default a1)), (16, vi ((a1.length : Nat) : Int)), (17, vi x8)], []⟩

def poly_Area2_L2_T (x13 : Int) : St :=
  ⟨[(3, vi x13)], []⟩

def poly_Area2_k1_S (a1 : List Point) (x5 : Bool) : St :=
  ⟨[(0, vc (tl e_Point default a1)), (14, vb x5)], []⟩

set_option maxRecDepth 100000 in
theorem poly_Area2_L2_ok (E : Env 0) (a1 : List Point) : ∀ (n : Nat) (x7 : Int) (x8 : Int) (res : Int), poly_Area2_L2 a1 n x7 x8 = some res → HL (kx E 45 0) (nd Tryd.f16 244) (loopQ0 0 (fun o => poly_Area2_L2_T o) res) n (poly_Area2_L2_S a1 x7 x8) := by
  intro n
  induction n with
  | zero =>
    intro x7 x8 res hm
    cases hm
  | succ n ih =>
    intro x7 x8 res hm
    refine HL_succ ?_
    refine R_sq Tryd.f16 488 489 (by kernel_rfl) ?_
    refine R_rn Tryd.f16 488 5 [] [] 0 ⟨[(0, vc (tl e_Point default a1)), (3, vi x7), (15, vc (tl e_Point default a1)), (16, vi ((a1.length : Nat) : Int)), (17, vi x8), (18, vb (decide (x8 < ((a1.length : Nat) : Int))))], []⟩ o0 (by kernel_rfl) (by kernel_rfl) ?_
    refine R_sq Tryd.f16 978 979 (by kernel_rfl) ?_
    refine R_cn Tryd.f16 (.tmp 18) 1956 1957 (by kernel_rfl) (decide (x8 < ((a1.length : Nat) : Int))) (by kernel_rfl) (fun b9 => ?_) (fun b9 => ?_)
    · replace hm := bif_t b9 hm
      refine R_skip (by kernel_rfl) ?_
      refine R_sq Tryd.f16 1958 1959 (by kernel_rfl) ?_
      refine R_bk Tryd.f16 1 3916 (by kernel_rfl) ?_
      refine R_sq Tryd.f16 7832 7833 (by kernel_rfl) ?_
      obtain ⟨g10, hm⟩ := bif_n hm
      refine R_rn Tryd.f16 7832 6 [] [] 0 ⟨[(0, vc (tl e_Point default a1)), (3, vi x7), (4, vi x8), (5, vp 0 0), (15, vc (tl e_Point default a1)), (16, vi ((a1.length : Nat) : Int)), (17, vi x8)], [(0, bx 38 [ci ((a1.getD x8.toNat default).X), ci ((a1.getD x8.toNat default).Y)])]⟩ (o1 (inb_of g10)) (by kernel_rfl) (by kernel_rfl) ?_
      refine R_sq Tryd.f16 15666 15667 (by kernel_rfl) ?_
      obtain ⟨g11, hm⟩ := bif_n hm
      obtain ⟨g12, hm⟩ := bif_n hm
      refine R_rn Tryd.f16 15666 7 [] [] 1 ⟨[(0, vc (tl e_Point default a1)), (3, vi x7), (5, vp 0 0), (6, vp 1 0), (15, vc (tl e_Point default a1)), (16, vi ((a1.length : Nat) : Int)), (17, vi x8)], [(0, bx 38 [ci ((a1.getD x8.toNat default).X), ci ((a1.getD x8.toNat default).Y)]), (1, bx 38 [ci ((a1.getD (Int.tmod (w64 (x8 + 1)) ((a1.length : Nat) : Int)).toNat default).X), ci ((a1.getD (Int.tmod (w64 (x8 + 1)) ((a1.length : Nat) : Int)).toNat default).Y)])]⟩ (o1 (And.intro (nz_of g11) (inb_of g12))) (by kernel_rfl) (by kernel_rfl) ?_
      refine R_rn Tryd.f16 15667 8 [] [] 2 ⟨[(0, vc (tl e_Point default a1)), (3, vi (w64 (x7 + (w64 ((w64 (((a1.getD x8.toNat default).X) * ((a1.getD (Int.tmod (w64 (x8 + 1)) ((a1.length : Nat) : Int)).toNat default).Y))) - (w64 (((a1.getD (Int.tmod (w64 (x8 + 1)) ((a1.length : Nat) : Int)).toNat default).X) * ((a1.getD x8.toNat default).Y)))))))), (15, vc (tl e_Point default a1)), (16, vi ((a1.length : Nat) : Int)), (17, vi x8)], []⟩ o0 (by kernel_rfl) (by kernel_rfl) ?_
      refine R_rn Tryd.f16 1959 9 [] [] 2 ⟨[(0, vc (tl e_Point default a1)), (3, vi (w64 (x7 + (w64 ((w64 (((a1.getD x8.toNat default).X) * ((a1.getD (Int.tmod (w64 (x8 + 1)) ((a1.length : Nat) : Int)).toNat default).Y))) - (w64 (((a1.getD (Int.tmod (w64 (x8 + 1)) ((a1.length : Nat) : Int)).toNat default).X) * ((a1.getD x8.toNat default).Y)))))))), (15, vc (tl e_Point default a1)), (16, vi ((a1.length : Nat) : Int)), (17, vi (w64 (x8 + 1)))], []⟩ o0 (by kernel_rfl) (by kernel_rfl) ?_
      exact HL_enter (poly_Area2_L2_S a1 (w64 (x7 + (w64 ((w64 (((a1.getD x8.toNat default).X) * ((a1.getD (Int.tmod (w64 (x8 + 1)) ((a1.length : Nat) : Int)).toNat default).Y))) - (w64 (((a1.getD (Int.tmod (w64 (x8 + 1)) ((a1.length : Nat) : Int)).toNat default).X) * ((a1.getD x8.toNat default).Y))))))) (w64 (x8 + 1))) (by kernel_rfl) (by kernel_rfl) (ih (w64 (x7 + (w64 ((w64 (((a1.getD x8.toNat default).X) * ((a1.getD (Int.tmod (w64 (x8 + 1)) ((a1.length : Nat) : Int)).toNat default).Y))) - (w64 (((a1.getD (Int.tmod (w64 (x8 + 1)) ((a1.length : Nat) : Int)).toNat default).X) * ((a1.getD x8.toNat default).Y))))))) (w64 (x8 + 1)) _ hm)
    · replace hm := bif_f b9 hm
      refine R_exit 0 (by kernel_rfl) ?_
      obtain rfl := Option.some.inj hm
      exact L0_mk (by kernel_rfl) (by kernel_rfl)

set_option maxRecDepth 100000 in
theorem poly_Area2_ok (a1 : List Point) (r : Int) (hm : poly_Area2 a1 = some r) : CtX Tryd.prog globs 16 0 0 [.one (tl e_Point default a1)] [] (poly_Area2_x r) (poly_Area2_o r) := by
  unfold poly_Area2 at hm
  refine CtX_of_E (fn := Tryd.f16) (c := nd Tryd.f16 1) (nt := 45) (by kernel_rfl) (by kernel_rfl) (by kernel_rfl) (by kernel_rfl) fun E => ?_
  refine R_sq Tryd.f16 2 3 (by kernel_rfl) ?_
  refine R_rn Tryd.f16 2 0 [] [] 0 ⟨[(0, vc (tl e_Point default a1))], []⟩ o0 (by kernel_rfl) (by kernel_rfl) ?_
  refine R_sq Tryd.f16 6 7 (by kernel_rfl) ?_
  refine R_join (ι := Bool) (nd Tryd.f16 12) (nd Tryd.f16 13) (by kernel_rfl) (fun p => poly_Area2_k1_S a1 p) (fun p => poly_Area2_k1 a1 p = some r) ?_ ?_
  · rintro x5 hm
    show H _ (poly_Area2_k1_S a1 x5) (nd Tryd.f16 13) _
    refine R_cn Tryd.f16 (.tmp 14) 26 27 (by kernel_rfl) x5 (by kernel_rfl) (fun b6 => ?_) (fun b6 => ?_)
    · replace hm := bif_t b6 hm
      refine R_sq Tryd.f16 52 53 (by kernel_rfl) ?_
      refine R_rn Tryd.f16 52 2 [] [] 0 ⟨[(2, vi 0)], []⟩ o0 (by kernel_rfl) (by kernel_rfl) ?_
      obtain rfl := Option.some.inj hm
      refine R_ret (by kernel_rfl) ?_
      exact ret_mk (by kernel_rfl) (by kernel_rfl)
    · replace hm := bif_f b6 hm
      refine R_skip (by kernel_rfl) ?_
      refine R_sq Tryd.f16 14 15 (by kernel_rfl) ?_
      refine R_rn Tryd.f16 14 3 [] [] 0 ⟨[(0, vc (tl e_Point default a1)), (3, vi 0)], []⟩ o0 (by kernel_rfl) (by kernel_rfl) ?_
      refine R_sq Tryd.f16 30 31 (by kernel_rfl) ?_
      refine R_sq Tryd.f16 60 61 (by kernel_rfl) ?_
      refine R_rn Tryd.f16 60 4 [] [] 0 ⟨[(0, vc (tl e_Point default a1)), (3, vi 0), (15, vc (tl e_Point default a1)), (16, vi ((a1.length : Nat) : Int)), (17, vi 0)], []⟩ o0 (by kernel_rfl) (by kernel_rfl) ?_
      obtain ⟨o14, h15, hm⟩ := bind_s hm
      refine R_loop0 (nd Tryd.f16 244) 0 (by kernel_rfl) FUEL (fun o => poly_Area2_L2_T o) o14 (HL_enter (poly_Area2_L2_S a1 0 0) (by kernel_rfl) (by kernel_rfl) (poly_Area2_L2_ok E a1 FUEL 0 0 o14 h15)) ?_
      refine R_sq Tryd.f16 62 63 (by kernel_rfl) ?_
      refine R_rn Tryd.f16 62 10 [] [] 0 ⟨[(2, vi o14)], []⟩ o0 (by kernel_rfl) (by kernel_rfl) ?_
      obtain rfl := Option.some.inj hm
      refine R_ret (by kernel_rfl) ?_
      exact ret_mk (by kernel_rfl) (by kernel_rfl)
  · rcases Bool.eq_false_or_eq_true (decide (((a1.length : Nat) : Int) > 32)) with b2 | b2
    · replace hm := bif_t b2 hm
      refine R_rn Tryd.f16 12 1 [(3, dfx true)] [] 0 ⟨[(0, vc (tl e_Point default a1)), (14, vb true)], []⟩ (o1 b2) (by kernel_rfl) (by kernel_rfl) ?_
      exact J_mk (true) hm (by kernel_rfl) (by kernel_rfl)
    · replace hm := bif_f b2 hm
      obtain ⟨v3, h4, hm⟩ := bind_s hm
      refine R_rn Tryd.f16 12 1 [(3, dfx false), (5, dex (cen [] [] 0 0 (poly_inRange_x v3) (poly_inRange_o v3) [10, 11] []))] [] 0 ⟨[(0, vc (tl e_Point default a1)), (14, vb (!v3))], []⟩ (o1 (And.intro b2 (callS (K := (kx E 45 0)) ⟨[(10, vb false), (11, vc (tl e_Point default a1))], []⟩ (opAt (rg Tryd.f16 12) 5) [] [] 0 o0 rfl (poly_inRange_ok a1 v3 h4) (.inl rfl) (by kernel_rfl)))) (by kernel_rfl) (by kernel_rfl) ?_
      exact J_mk (!v3) hm (by kernel_rfl) (by kernel_rfl)

end Saw
end Go.SL

namespace Go.SL
namespace Saw
open Go.Proofs
set_option maxHeartbeats 4000000

def poly_Check_x (r : Int) : V := vi r

def poly_Check_o (r : Int) : List (Nat × (Nat × O)) := []

theorem poly_Check_f (r : Int) : Frozen (poly_Check_o r) := by
  intro i k o h
  unfold poly_Check_o at h
  cases h

set_option maxRecDepth 100000 in
theorem poly_Check_ok (a1 : List Point) (r : Int) (hm : poly_Check a1 = some r) : CtX Tryd.prog globs 14 0 0 [.one (tl e_Point default a1)] [] (poly_Check_x r) (poly_Check_o r) := by
  unfold poly_Check at hm
  refine CtX_of_E (fn := Tryd.f14) (c := nd Tryd.f14 1) (nt := 19) (by kernel_rfl) (by kernel_rfl) (by kernel_rfl) (by kernel_rfl) fun E => ?_
  refine R_sq Tryd.f14 2 3 (by kernel_rfl) ?_
  refine R_rn Tryd.f14 2 0 [] [] 0 ⟨[(0, vc (tl e_Point default a1))], []⟩ o0 (by kernel_rfl) (by kernel_rfl) ?_
  refine R_sq Tryd.f14 6 7 (by kernel_rfl) ?_
  refine R_bk Tryd.f14 0 12 (by kernel_rfl) ?_
  refine R_sq Tryd.f14 24 25 (by kernel_rfl) ?_
  refine R_rn Tryd.f14 24 1 [] [] 0 ⟨[(0, vc (tl e_Point default a1)), (3, vb (decide (((a1.length : Nat) : Int) < 3)))], []⟩ o0 (by kernel_rfl) (by kernel_rfl) ?_
  refine R_cn Tryd.f14 (.tmp 3) 50 51 (by kernel_rfl) (decide (((a1.length : Nat) : Int) < 3)) (by kernel_rfl) (fun b2 => ?_) (fun b2 => ?_)
  · replace hm := bif_t b2 hm
    refine R_sq Tryd.f14 100 101 (by kernel_rfl) ?_
    refine R_rn Tryd.f14 100 2 [] [] 0 ⟨[(2, vi 3)], []⟩ o0 (by kernel_rfl) (by kernel_rfl) ?_
    obtain rfl := Option.some.inj hm
    refine R_ret (by kernel_rfl) ?_
    exact ret_mk (by kernel_rfl) (by kernel_rfl)
  · replace hm := bif_f b2 hm
    refine R_sq Tryd.f14 102 103 (by kernel_rfl) ?_
    refine R_rn Tryd.f14 102 3 [] [] 0 ⟨[(0, vc (tl e_Point default a1)), (7, vb (decide (((a1.length : Nat) : Int) > 32)))], []⟩ o0 (by kernel_rfl) (by kernel_rfl) ?_
    refine R_cn Tryd.f14 (.tmp 7) 206 207 (by kernel_rfl) (decide (((a1.length : Nat) : Int) > 32)) (by kernel_rfl) (fun b3 => ?_) (fun b3 => ?_)
    · replace hm := bif_t b3 hm
      refine R_sq Tryd.f14 412 413 (by kernel_rfl) ?_
      refine R_rn Tryd.f14 412 4 [] [] 0 ⟨[(2, vi 4)], []⟩ o0 (by kernel_rfl) (by kernel_rfl) ?_
      obtain rfl := Option.some.inj hm
      refine R_ret (by kernel_rfl) ?_
      exact ret_mk (by kernel_rfl) (by kernel_rfl)
    · replace hm := bif_f b3 hm
      refine R_sq Tryd.f14 414 415 (by kernel_rfl) ?_
      obtain ⟨v4, h5, hm⟩ := bind_s hm
      refine R_rn Tryd.f14 414 5 [(1, dex (cen [] [] 0 0 (poly_inRange_x v4) (poly_inRange_o v4) [12] []))] [] 0 ⟨[(0, vc (tl e_Point default a1)), (11, vb (!v4))], []⟩ (o1 (callS (K := (kx E 19 0)) ⟨[(12, vc (tl e_Point default a1))], []⟩ (opAt (rg Tryd.f14 414) 1) [] [] 0 o0 rfl (poly_inRange_ok a1 v4 h5) (.inl rfl) (by kernel_rfl))) (by kernel_rfl) (by kernel_rfl) ?_
      refine R_cn Tryd.f14 (.tmp 11) 830 831 (by kernel_rfl) (!v4) (by kernel_rfl) (fun b6 => ?_) (fun b6 => ?_)
      · replace hm := bif_t b6 hm
        refine R_sq Tryd.f14 1660 1661 (by kernel_rfl) ?_
        refine R_rn Tryd.f14 1660 6 [] [] 0 ⟨[(2, vi 9)], []⟩ o0 (by kernel_rfl) (by kernel_rfl) ?_
        obtain rfl := Option.some.inj hm
        refine R_ret (by kernel_rfl) ?_
        exact ret_mk (by kernel_rfl) (by kernel_rfl)
      · replace hm := bif_f b6 hm
        refine R_sq Tryd.f14 1662 1663 (by kernel_rfl) ?_
        obtain ⟨v7, h8, hm⟩ := bind_s hm
        refine R_rn Tryd.f14 1662 7 [(1, dex (cen [] [] 0 0 (poly_Area2_x v7) (poly_Area2_o v7) [16] []))] [] 0 ⟨[(15, vb (v7 == 0))], []⟩ (o1 (callS (K := (kx E 19 0)) ⟨[(16, vc (tl e_Point default a1))], []⟩ (opAt (rg Tryd.f14 1662) 1) [] [] 0 o0 rfl (poly_Area2_ok a1 v7 h8) (.inl rfl) (by kernel_rfl))) (by kernel_rfl) (by kernel_rfl) ?_
        refine R_cn Tryd.f14 (.tmp 15) 3326 3327 (by kernel_rfl) (v7 == 0) (by kernel_rfl) (fun b9 => ?_) (fun b9 => ?_)
        · replace hm := bif_t b9 hm
          refine R_sq Tryd.f14 6652 6653 (by kernel_rfl) ?_
          refine R_rn Tryd.f14 6652 8 [] [] 0 ⟨[(2, vi 19)], []⟩ o0 (by kernel_rfl) (by kernel_rfl) ?_
          obtain rfl := Option.some.inj hm
          refine R_ret (by kernel_rfl) ?_
          exact ret_mk (by kernel_rfl) (by kernel_rfl)
        · replace hm := bif_f b9 hm
          refine R_skip (by kernel_rfl) ?_
          refine R_sq Tryd.f14 14 15 (by kernel_rfl) ?_
          refine R_rn Tryd.f14 14 9 [] [] 0 ⟨[(2, vi 0)], []⟩ o0 (by kernel_rfl) (by kernel_rfl) ?_
          obtain rfl := Option.some.inj hm
          refine R_ret (by kernel_rfl) ?_
          exact ret_mk (by kernel_rfl) (by kernel_rfl)

end Saw
end Go.SL

namespace Go.SL
namespace Saw
open Go.Proofs
set_option maxHeartbeats 4000000

def poly_Bounds_x (r : Rect) : V := va [ci r.X.A, ci r.X.B, ci r.Y.A, ci r.Y.B]

def poly_Bounds_o (r : Rect) : List (Nat × (Nat × O)) := []

theorem poly_Bounds_f (r : Rect) : Frozen (poly_Bounds_o r) := by
  intro i k o h
  unfold poly_Bounds_o at h
  cases h

def poly_Bounds_L1_S (a1 : List Point) (x4 : Int) (x5 : Rect) : St :=
  ⟨[(2, vp 0 0), (3, vp 1 0), (29, vc (tl e_Point default a1)), (30, vi ((a1.length : Nat) : Int)), (31, vi x4)], [(0, bx 31 [ci 0, ci 0, ci 0, ci 0]), (1, bx 31 [ci x5.X.A, ci x5.X.B, ci x5.Y.A, ci x5.Y.B])]⟩

def poly_Bounds_L1_T (x8 : Rect) : St :=
  ⟨[(2, vp 0 0), (3, vp 1 0)], [(0, bx 31 [ci 0, ci 0, ci 0, ci 0]), (1, bx 31 [ci x8.X.A, ci x8.X.B, ci x8.Y.A, ci x8.Y.B])]⟩

set_option maxRecDepth 100000 in
theorem poly_Bounds_L1_ok (E : Env 0) (a1 : List Point) : ∀ (n : Nat) (x4 : Int) (x5 : Rect) (res : Rect), poly_Bounds_L1 a1 n x4 x5 = some res → HL (kx E 65 0) (nd Tryd.f18 244) (loopQ0 0 (fun o => poly_Bounds_L1_T o) res) n (poly_Bounds_L1_S a1 x4 x5) := by
  intro n
  induction n with
  | zero =>
    intro x4 x5 res hm
    cases hm
  | succ n ih =>
    intro x4 x5 res hm
    refine HL_succ ?_
    refine R_sq Tryd.f18 488 489 (by kernel_rfl) ?_
    refine R_rn Tryd.f18 488 5 [] [] 2 ⟨[(2, vp 0 0), (3, vp 1 0), (29, vc (tl e_Point default a1)), (30, vi ((a1.length : Nat) : Int)), (31, vi x4), (32, vb (decide (x4 < ((a1.length : Nat) : Int))))], [(0, bx 31 [ci 0, ci 0, ci 0, ci 0]), (1, bx 31 [ci x5.X.A, ci x5.X.B, ci x5.Y.A, ci x5.Y.B])]⟩ o0 (by kernel_rfl) (by kernel_rfl) ?_
    refine R_sq Tryd.f18 978 979 (by kernel_rfl) ?_
    refine R_cn Tryd.f18 (.tmp 32) 1956 1957 (by kernel_rfl) (decide (x4 < ((a1.length : Nat) : Int))) (by kernel_rfl) (fun b6 => ?_) (fun b6 => ?_)
    · replace hm := bif_t b6 hm
      refine R_skip (by kernel_rfl) ?_
      refine R_sq Tryd.f18 1958 1959 (by kernel_rfl) ?_
      refine R_bk Tryd.f18 1 3916 (by kernel_rfl) ?_
      refine R_sq Tryd.f18 7832 7833 (by kernel_rfl) ?_
      obtain ⟨g7, hm⟩ := bif_n hm
      refine R_rn Tryd.f18 7832 6 [] [] 2 ⟨[(2, vp 0 0), (3, vp 1 0), (5, vp 2 0), (29, vc (tl e_Point default a1)), (30, vi ((a1.length : Nat) : Int)), (31, vi x4)], [(0, bx 31 [ci 0, ci 0, ci 0, ci 0]), (1, bx 31 [ci x5.X.A, ci x5.X.B, ci x5.Y.A, ci x5.Y.B]), (2, bx 38 [ci ((a1.getD x4.toNat default).X), ci ((a1.getD x4.toNat default).Y)])]⟩ (o1 (inb_of g7)) (by kernel_rfl) (by kernel_rfl) ?_
      refine R_sq Tryd.f18 15666 15667 (by kernel_rfl) ?_
      refine R_rn Tryd.f18 15666 7 [] [] 3 ⟨[(2, vp 0 0), (3, vp 1 0), (5, vp 2 0), (29, vc (tl e_Point default a1)), (30, vi ((a1.length : Nat) : Int)), (31, vi x4)], [(0, bx 31 [ci 0, ci 0, ci 0, ci 0]), (1, bx 31 [ci (imin x5.X.A ((a1.getD x4.toNat default).X)), ci (imax x5.X.B ((a1.getD x4.toNat default).X)), ci x5.Y.A, ci x5.Y.B]), (2, bx 38 [ci ((a1.getD x4.toNat default).X), ci ((a1.getD x4.toNat default).Y)])]⟩ o0 (by kernel_rfl) (by kernel_rfl) ?_
      refine R_rn Tryd.f18 15667 8 [] [] 3 ⟨[(2, vp 0 0), (3, vp 1 0), (29, vc (tl e_Point default a1)), (30, vi ((a1.length : Nat) : Int)), (31, vi x4)], [(0, bx 31 [ci 0, ci 0, ci 0, ci 0]), (1, bx 31 [ci (imin x5.X.A ((a1.getD x4.toNat default).X)), ci (imax x5.X.B ((a1.getD x4.toNat default).X)), ci (imin x5.Y.A ((a1.getD x4.toNat default).Y)), ci (imax x5.Y.B ((a1.getD x4.toNat default).Y))])]⟩ o0 (by kernel_rfl) (by kernel_rfl) ?_
      refine R_rn Tryd.f18 1959 9 [] [] 3 ⟨[(2, vp 0 0), (3, vp 1 0), (29, vc (tl e_Point default a1)), (30, vi ((a1.length : Nat) : Int)), (31, vi (w64 (x4 + 1)))], [(0, bx 31 [ci 0, ci 0, ci 0, ci 0]), (1, bx 31 [ci (imin x5.X.A ((a1.getD x4.toNat default).X)), ci (imax x5.X.B ((a1.getD x4.toNat default).X)), ci (imin x5.Y.A ((a1.getD x4.toNat default).Y)), ci (imax x5.Y.B ((a1.getD x4.toNat default).Y))])]⟩ o0 (by kernel_rfl) (by kernel_rfl) ?_
      exact HL_enter (poly_Bounds_L1_S a1 (w64 (x4 + 1)) (Rect.mk (Span.mk (imin x5.X.A ((a1.getD x4.toNat default).X)) (imax x5.X.B ((a1.getD x4.toNat default).X))) (Span.mk (imin x5.Y.A ((a1.getD x4.toNat default).Y)) (imax x5.Y.B ((a1.getD x4.toNat default).Y))))) (by kernel_rfl) (by kernel_rfl) (ih (w64 (x4 + 1)) (Rect.mk (Span.mk (imin x5.X.A ((a1.getD x4.toNat default).X)) (imax x5.X.B ((a1.getD x4.toNat default).X))) (Span.mk (imin x5.Y.A ((a1.getD x4.toNat default).Y)) (imax x5.Y.B ((a1.getD x4.toNat default).Y)))) _ hm)
    · replace hm := bif_f b6 hm
      refine R_exit 0 (by kernel_rfl) ?_
      obtain rfl := Option.some.inj hm
      exact L0_mk (by kernel_rfl) (by kernel_rfl)

set_option maxRecDepth 100000 in
theorem poly_Bounds_ok (a1 : List Point) (r : Rect) (hm : poly_Bounds a1 = some r) : CtX Tryd.prog globs 18 0 0 [.one (tl e_Point default a1)] [] (poly_Bounds_x r) (poly_Bounds_o r) := by
  unfold poly_Bounds at hm
  refine CtX_of_E (fn := Tryd.f18) (c := nd Tryd.f18 1) (nt := 65) (by kernel_rfl) (by kernel_rfl) (by kernel_rfl) (by kernel_rfl) fun E => ?_
  refine R_sq Tryd.f18 2 3 (by kernel_rfl) ?_
  refine R_rn Tryd.f18 2 0 [] [] 0 ⟨[(0, vc (tl e_Point default a1)), (2, vp 0 0)], [(0, bx 31 [ci 0, ci 0, ci 0, ci 0])]⟩ o0 (by kernel_rfl) (by kernel_rfl) ?_
  refine R_sq Tryd.f18 6 7 (by kernel_rfl) ?_
  refine R_sq Tryd.f18 12 13 (by kernel_rfl) ?_
  refine R_rn Tryd.f18 12 1 [] [] 1 ⟨[(0, vc (tl e_Point default a1)), (2, vp 0 0), (8, vb (((a1.length : Nat) : Int) == 0))], [(0, bx 31 [ci 0, ci 0, ci 0, ci 0])]⟩ o0 (by kernel_rfl) (by kernel_rfl) ?_
  refine R_cn Tryd.f18 (.tmp 8) 26 27 (by kernel_rfl) (((a1.length : Nat) : Int) == 0) (by kernel_rfl) (fun b2 => ?_) (fun b2 => ?_)
  · replace hm := bif_t b2 hm
    refine R_sq Tryd.f18 52 53 (by kernel_rfl) ?_
    refine R_rn Tryd.f18 52 2 [] [] 1 ⟨[(2, vp 0 0)], [(0, bx 31 [ci 0, ci 0, ci 0, ci 0])]⟩ o0 (by kernel_rfl) (by kernel_rfl) ?_
    obtain rfl := Option.some.inj hm
    refine R_ret (by kernel_rfl) ?_
    exact ret_mk (by kernel_rfl) (by kernel_rfl)
  · replace hm := bif_f b2 hm
    refine R_skip (by kernel_rfl) ?_
    refine R_sq Tryd.f18 14 15 (by kernel_rfl) ?_
    obtain ⟨g3, hm⟩ := bif_n hm
    refine R_dr Tryd.f18 14 3 [] [] [] [0, 1, 3, 7, 0, 16, 48, 112, 255, 0, 512, 1536, 3584, 0, 8192, 24576, 57344, 130560, 262143, 0, 1048575] 1 ⟨[(0, vc (tl e_Point default a1)), (2, vp 0 0), (3, vp 1 0)], [(0, bx 31 [ci 0, ci 0, ci 0, ci 0]), (1, bx 31 [ci ((a1.getD (0 : Int).toNat default).X), ci ((a1.getD (0 : Int).toNat default).X), ci ((a1.getD (0 : Int).toNat default).Y), ci ((a1.getD (0 : Int).toNat default).Y)])]⟩ (o1 (And.intro (inb_of g3) (And.intro (inb_of g3) (And.intro (inb_of g3) (inb_of g3))))) (by kernel_rfl) (by kernel_rfl) ?_
    refine R_sq Tryd.f18 30 31 (by kernel_rfl) ?_
    refine R_sq Tryd.f18 60 61 (by kernel_rfl) ?_
    refine R_rn Tryd.f18 60 4 [] [] 2 ⟨[(2, vp 0 0), (3, vp 1 0), (29, vc (tl e_Point default a1)), (30, vi ((a1.length : Nat) : Int)), (31, vi 0)], [(0, bx 31 [ci 0, ci 0, ci 0, ci 0]), (1, bx 31 [ci ((a1.getD (0 : Int).toNat default).X), ci ((a1.getD (0 : Int).toNat default).X), ci ((a1.getD (0 : Int).toNat default).Y), ci ((a1.getD (0 : Int).toNat default).Y)])]⟩ o0 (by kernel_rfl) (by kernel_rfl) ?_
    obtain ⟨o9, h10, hm⟩ := bind_s hm
    refine R_loop0 (nd Tryd.f18 244) 0 (by kernel_rfl) FUEL (fun o => poly_Bounds_L1_T o) o9 (HL_enter (poly_Bounds_L1_S a1 0 (Rect.mk (Span.mk ((a1.getD (0 : Int).toNat default).X) ((a1.getD (0 : Int).toNat default).X)) (Span.mk ((a1.getD (0 : Int).toNat default).Y) ((a1.getD (0 : Int).toNat default).Y)))) (by kernel_rfl) (by kernel_rfl) (poly_Bounds_L1_ok E a1 FUEL 0 (Rect.mk (Span.mk ((a1.getD (0 : Int).toNat default).X) ((a1.getD (0 : Int).toNat default).X)) (Span.mk ((a1.getD (0 : Int).toNat default).Y) ((a1.getD (0 : Int).toNat default).Y))) o9 h10)) ?_
    refine R_sq Tryd.f18 62 63 (by kernel_rfl) ?_
    refine R_rn Tryd.f18 62 10 [] [] 2 ⟨[(2, vp 0 0)], [(0, bx 31 [ci o9.X.A, ci o9.X.B, ci o9.Y.A, ci o9.Y.B])]⟩ o0 (by kernel_rfl) (by kernel_rfl) ?_
    obtain rfl := Option.some.inj hm
    refine R_ret (by kernel_rfl) ?_
    exact ret_mk (by kernel_rfl) (by kernel_rfl)

end Saw
end Go.SL

namespace Go.SL
namespace Saw
open Go.Proofs
set_option maxHeartbeats 4000000

def poly_canTurn_x (r : Bool) : V := vb r

def poly_canTurn_o (r : Bool) : List (Nat × (Nat × O)) := []

theorem poly_canTurn_f (r : Bool) : Frozen (poly_canTurn_o r) := by
  intro i k o h
  unfold poly_canTurn_o at h
  cases h

def poly_canTurn_k2_S (a1 : List Point) (x2 : Int) (x6 : Bool) : St :=
  ⟨[(5, vc (tl e_Point default a1)), (6, vi ((a1.length : Nat) : Int)), (7, vi x2), (18, vb x6)], []⟩

def poly_canTurn_L1_S (a1 : List Point) (x2 : Int) : St :=
  ⟨[(5, vc (tl e_Point default a1)), (6, vi ((a1.length : Nat) : Int)), (7, vi x2)], []⟩

def poly_canTurn_L1_T : St :=
  ⟨[], []⟩

set_option maxRecDepth 100000 in
theorem poly_canTurn_L1_ok (E : Env 0) (a1 : List Point) : ∀ (n : Nat) (x2 : Int) (res : Bool ⊕ Unit), poly_canTurn_L1 a1 n x2 = some res → HL (kx E 20 0) (nd Tryd.f38 52) (loopQ 0 (fun o => poly_canTurn_L1_T) (fun v st => RetQ Tryd.prog Tryd.f38 (poly_canTurn_x v) (poly_canTurn_o v) .ret st) res) n (poly_canTurn_L1_S a1 x2) := by
  intro n
  induction n with
  | zero =>
    intro x2 res hm
    cases hm
  | succ n ih =>
    intro x2 res hm
    refine HL_succ ?_
    refine R_sq Tryd.f38 104 105 (by kernel_rfl) ?_
    refine R_rn Tryd.f38 104 2 [] [] 0 ⟨[(5, vc (tl e_Point default a1)), (6, vi ((a1.length : Nat) : Int)), (7, vi x2), (8, vb (decide (x2 < ((a1.length : Nat) : Int))))], []⟩ o0 (by kernel_rfl) (by kernel_rfl) ?_
    refine R_sq Tryd.f38 210 211 (by kernel_rfl) ?_
    refine R_cn Tryd.f38 (.tmp 8) 420 421 (by kernel_rfl) (decide (x2 < ((a1.length : Nat) : Int))) (by kernel_rfl) (fun b3 => ?_) (fun b3 => ?_)
    · replace hm := bif_t b3 hm
      refine R_skip (by kernel_rfl) ?_
      refine R_sq Tryd.f38 422 423 (by kernel_rfl) ?_
      refine R_bk Tryd.f38 1 844 (by kernel_rfl) ?_
      refine R_sq Tryd.f38 1688 1689 (by kernel_rfl) ?_
      obtain ⟨g4, hm⟩ := bif_n hm
      refine R_rn Tryd.f38 1688 3 [] [] 0 ⟨[(4, vp 0 0), (5, vc (tl e_Point default a1)), (6, vi ((a1.length : Nat) : Int)), (7, vi x2)], [(0, bx 38 [ci ((a1.getD x2.toNat default).X), ci ((a1.getD x2.toNat default).Y)])]⟩ (o1 (inb_of g4)) (by kernel_rfl) (by kernel_rfl) ?_
      refine R_join (ι := Bool) (nd Tryd.f38 3378) (nd Tryd.f38 3379) (by kernel_rfl) (fun p => poly_canTurn_k2_S a1 x2 p) (fun p => poly_canTurn_k2 x2 (poly_canTurn_L1 a1 n) p = some res) ?_ ?_
      · rintro x6 hm
        show H _ (poly_canTurn_k2_S a1 x2 x6) (nd Tryd.f38 3379) _
        refine R_cn Tryd.f38 (.tmp 18) 6758 6759 (by kernel_rfl) x6 (by kernel_rfl) (fun b7 => ?_) (fun b7 => ?_)
        · replace hm := bif_t b7 hm
          refine R_sq Tryd.f38 13516 13517 (by kernel_rfl) ?_
          refine R_rn Tryd.f38 13516 5 [] [] 1 ⟨[(2, vb false)], []⟩ o0 (by kernel_rfl) (by kernel_rfl) ?_
          obtain rfl := Option.some.inj hm
          refine R_ret (by kernel_rfl) ?_
          refine L1_ret false ?_
          exact ret_mk (by kernel_rfl) (by kernel_rfl)
        · replace hm := bif_f b7 hm
          refine R_skip (by kernel_rfl) ?_
          refine R_rn Tryd.f38 423 6 [] [] 1 ⟨[(5, vc (tl e_Point default a1)), (6, vi ((a1.length : Nat) : Int)), (7, vi (w64 (x2 + 1)))], []⟩ o0 (by kernel_rfl) (by kernel_rfl) ?_
          exact HL_enter (poly_canTurn_L1_S a1 (w64 (x2 + 1))) (by kernel_rfl) (by kernel_rfl) (ih (w64 (x2 + 1)) _ hm)
      · rcases Bool.eq_false_or_eq_true (((a1.getD x2.toNat default).X) == (-9223372036854775808)) with b5 | b5
        · replace hm := bif_t b5 hm
          refine R_rn Tryd.f38 3378 4 [(3, dfx true)] [] 1 ⟨[(5, vc (tl e_Point default a1)), (6, vi ((a1.length : Nat) : Int)), (7, vi x2), (18, vb true)], []⟩ (o1 b5) (by kernel_rfl) (by kernel_rfl) ?_
          exact J_mk (true) hm (by kernel_rfl) (by kernel_rfl)
        · replace hm := bif_f b5 hm
          refine R_rn Tryd.f38 3378 4 [(3, dfx false)] [] 1 ⟨[(5, vc (tl e_Point default a1)), (6, vi ((a1.length : Nat) : Int)), (7, vi x2), (15, vp 0 1), (16, vi ((a1.getD x2.toNat default).Y)), (17, vb (((a1.getD x2.toNat default).Y) == (-9223372036854775808))), (18, vb (((a1.getD x2.toNat default).Y) == (-9223372036854775808)))], [(0, bx 38 [ci ((a1.getD x2.toNat default).X), ci ((a1.getD x2.toNat default).Y)])]⟩ (o1 b5) (by kernel_rfl) (by kernel_rfl) ?_
          exact J_mk (((a1.getD x2.toNat default).Y) == (-9223372036854775808)) hm (by kernel_rfl) (by kernel_rfl)
    · replace hm := bif_f b3 hm
      refine R_exit 0 (by kernel_rfl) ?_
      obtain rfl := Option.some.inj hm
      exact L1_mk () (by kernel_rfl) (by kernel_rfl)

set_option maxRecDepth 100000 in
theorem poly_canTurn_ok (a1 : List Point) (r : Bool) (hm : poly_canTurn a1 = some r) : CtX Tryd.prog globs 38 0 0 [.one (tl e_Point default a1)] [] (poly_canTurn_x r) (poly_canTurn_o r) := by
  unfold poly_canTurn at hm
  refine CtX_of_E (fn := Tryd.f38) (c := nd Tryd.f38 1) (nt := 20) (by kernel_rfl) (by kernel_rfl) (by kernel_rfl) (by kernel_rfl) fun E => ?_
  refine R_sq Tryd.f38 2 3 (by kernel_rfl) ?_
  refine R_rn Tryd.f38 2 0 [] [] 0 ⟨[(0, vc (tl e_Point default a1))], []⟩ o0 (by kernel_rfl) (by kernel_rfl) ?_
  refine R_sq Tryd.f38 6 7 (by kernel_rfl) ?_
  refine R_sq Tryd.f38 12 13 (by kernel_rfl) ?_
  refine R_rn Tryd.f38 12 1 [] [] 0 ⟨[(5, vc (tl e_Point default a1)), (6, vi ((a1.length : Nat) : Int)), (7, vi 0)], []⟩ o0 (by kernel_rfl) (by kernel_rfl) ?_
  obtain ⟨u10, h9, hm⟩ := bind_s hm
  refine R_loop1 (nd Tryd.f38 52) 0 (by kernel_rfl) FUEL (fun o => poly_canTurn_L1_T) (fun v st => RetQ Tryd.prog Tryd.f38 (poly_canTurn_x v) (poly_canTurn_o v) .ret st) u10 (HL_enter (poly_canTurn_L1_S a1 0) (by kernel_rfl) (by kernel_rfl) (poly_canTurn_L1_ok E a1 FUEL 0 u10 h9)) ?_ ?_
  · rintro v11 rfl st hr
    obtain rfl := Option.some.inj hm
    exact hr
  · rintro o8 rfl
    replace hm : _ = some r := hm
    refine R_sq Tryd.f38 14 15 (by kernel_rfl) ?_
    refine R_rn Tryd.f38 14 7 [] [] 0 ⟨[(2, vb true)], []⟩ o0 (by kernel_rfl) (by kernel_rfl) ?_
    obtain rfl := Option.some.inj hm
    refine R_ret (by kernel_rfl) ?_
    exact ret_mk (by kernel_rfl) (by kernel_rfl)

end Saw
end Go.SL
