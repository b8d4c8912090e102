import Derived.Test.YtjobdnkaonbgnaaEBase
set_option linter.unusedVariables false
set_option linter.unusedSimpArgs false
namespace Go.SL
namespace Saw
open Go.Proofs
set_option maxHeartbeats 4000000
set_option maxRecDepth 100000
def KY (r : Yield × Int) : V := .tup [.agg (qH r.1), .one (ci r.2)]
def KT (r : Yield × Int) : List (Nat × (Nat × O)) := []
def HF (a1 : Yield) (a2 : Yield) (x3 : Int) (x7 : Int) (x8 : Yield) (x12 : Bool) : St :=
 ⟨[(2, vp 0 0), (3, vp 1 0), (4, vp 2 0), (7, vp 3 0), (12, va [ci a1.Log, ci a1.Boards, ci a1.Chips, ci a1.Dust, ci a1.Value, ci a2.Log, ci a2.Boards, ci a2.Chips, ci a2.Dust, ci a2.Value]), (13, vi x3), (24, va [ci (([a1.Log, a1.Boards, a1.Chips, a1.Dust, a1.Value, a2.Log, a2.Boards, a2.Chips, a2.Dust, a2.Value] : List Int).getD (x3.toNat * 5 + 0) 0), ci (([a1.Log, a1.Boards, a1.Chips, a1.Dust, a1.Value, a2.Log, a2.Boards, a2.Chips, a2.Dust, a2.Value] : List Int).getD (x3.toNat * 5 + 1) 0), ci (([a1.Log, a1.Boards, a1.Chips, a1.Dust, a1.Value, a2.Log, a2.Boards, a2.Chips, a2.Dust, a2.Value] : List Int).getD (x3.toNat * 5 + 2) 0), ci (([a1.Log, a1.Boards, a1.Chips, a1.Dust, a1.Value, a2.Log, a2.Boards, a2.Chips, a2.Dust, a2.Value] : List Int).getD (x3.toNat * 5 + 3) 0)]), (25, vi x7), (33, vb x12)], [(0, bx 41 (qH a1)), (1, bx 41 (qH a2)), (2, bx 41 (qH x8)), (3, bx 41 [ci (([a1.Log, a1.Boards, a1.Chips, a1.Dust, a1.Value, a2.Log, a2.Boards, a2.Chips, a2.Dust, a2.Value] : List Int).getD (x3.toNat * 5 + 0) 0), ci (([a1.Log, a1.Boards, a1.Chips, a1.Dust, a1.Value, a2.Log, a2.Boards, a2.Chips, a2.Dust, a2.Value] : List Int).getD (x3.toNat * 5 + 1) 0), ci (([a1.Log, a1.Boards, a1.Chips, a1.Dust, a1.Value, a2.Log, a2.Boards, a2.Chips, a2.Dust, a2.Value] : List Int).getD (x3.toNat * 5 + 2) 0), ci (([a1.Log, a1.Boards, a1.Chips, a1.Dust, a1.Value, a2.Log, a2.Boards, a2.Chips, a2.Dust, a2.Value] : List Int).getD (x3.toNat * 5 + 3) 0), ci (([a1.Log, a1.Boards, a1.Chips, a1.Dust, a1.Value, a2.Log, a2.Boards, a2.Chips, a2.Dust, a2.Value] : List Int).getD (x3.toNat * 5 + 4) 0)])]⟩
def GI (a1 : Yield) (a2 : Yield) (x3 : Int) (x7 : Int) (x8 : Yield) : St :=
 ⟨[(2, vp 0 0), (3, vp 1 0), (4, vp 2 0), (7, vp 3 0), (12, va [ci a1.Log, ci a1.Boards, ci a1.Chips, ci a1.Dust, ci a1.Value, ci a2.Log, ci a2.Boards, ci a2.Chips, ci a2.Dust, ci a2.Value]), (13, vi x3), (24, va [ci (([a1.Log, a1.Boards, a1.Chips, a1.Dust, a1.Value, a2.Log, a2.Boards, a2.Chips, a2.Dust, a2.Value] : List Int).getD (x3.toNat * 5 + 0) 0), ci (([a1.Log, a1.Boards, a1.Chips, a1.Dust, a1.Value, a2.Log, a2.Boards, a2.Chips, a2.Dust, a2.Value] : List Int).getD (x3.toNat * 5 + 1) 0), ci (([a1.Log, a1.Boards, a1.Chips, a1.Dust, a1.Value, a2.Log, a2.Boards, a2.Chips, a2.Dust, a2.Value] : List Int).getD (x3.toNat * 5 + 2) 0), ci (([a1.Log, a1.Boards, a1.Chips, a1.Dust, a1.Value, a2.Log, a2.Boards, a2.Chips, a2.Dust, a2.Value] : List Int).getD (x3.toNat * 5 + 3) 0)]), (25, vi x7)], [(0, bx 41 (qH a1)), (1, bx 41 (qH a2)), (2, bx 41 (qH x8)), (3, bx 41 [ci (([a1.Log, a1.Boards, a1.Chips, a1.Dust, a1.Value, a2.Log, a2.Boards, a2.Chips, a2.Dust, a2.Value] : List Int).getD (x3.toNat * 5 + 0) 0), ci (([a1.Log, a1.Boards, a1.Chips, a1.Dust, a1.Value, a2.Log, a2.Boards, a2.Chips, a2.Dust, a2.Value] : List Int).getD (x3.toNat * 5 + 1) 0), ci (([a1.Log, a1.Boards, a1.Chips, a1.Dust, a1.Value, a2.Log, a2.Boards, a2.Chips, a2.Dust, a2.Value] : List Int).getD (x3.toNat * 5 + 2) 0), ci (([a1.Log, a1.Boards, a1.Chips, a1.Dust, a1.Value, a2.Log, a2.Boards, a2.Chips, a2.Dust, a2.Value] : List Int).getD (x3.toNat * 5 + 3) 0), ci (([a1.Log, a1.Boards, a1.Chips, a1.Dust, a1.Value, a2.Log, a2.Boards, a2.Chips, a2.Dust, a2.Value] : List Int).getD (x3.toNat * 5 + 4) 0)])]⟩
def HR (a1 : Yield) (a2 : Yield) (x3 : Int) (x14 : Yield) : St :=
 ⟨[(2, vp 0 0), (3, vp 1 0), (4, vp 2 0), (7, vp 3 0), (12, va [ci a1.Log, ci a1.Boards, ci a1.Chips, ci a1.Dust, ci a1.Value, ci a2.Log, ci a2.Boards, ci a2.Chips, ci a2.Dust, ci a2.Value]), (13, vi x3)], [(0, bx 41 (qH a1)), (1, bx 41 (qH a2)), (2, bx 41 (qH x14)), (3, bx 41 [ci (([a1.Log, a1.Boards, a1.Chips, a1.Dust, a1.Value, a2.Log, a2.Boards, a2.Chips, a2.Dust, a2.Value] : List Int).getD (x3.toNat * 5 + 0) 0), ci (([a1.Log, a1.Boards, a1.Chips, a1.Dust, a1.Value, a2.Log, a2.Boards, a2.Chips, a2.Dust, a2.Value] : List Int).getD (x3.toNat * 5 + 1) 0), ci (([a1.Log, a1.Boards, a1.Chips, a1.Dust, a1.Value, a2.Log, a2.Boards, a2.Chips, a2.Dust, a2.Value] : List Int).getD (x3.toNat * 5 + 2) 0), ci (([a1.Log, a1.Boards, a1.Chips, a1.Dust, a1.Value, a2.Log, a2.Boards, a2.Chips, a2.Dust, a2.Value] : List Int).getD (x3.toNat * 5 + 3) 0), ci (([a1.Log, a1.Boards, a1.Chips, a1.Dust, a1.Value, a2.Log, a2.Boards, a2.Chips, a2.Dust, a2.Value] : List Int).getD (x3.toNat * 5 + 4) 0)])]⟩
def HC (a1 : Yield) (a2 : Yield) (x3 : Int) (o15 : Yield) (x20 : Bool) : St :=
 ⟨[(2, vp 0 0), (3, vp 1 0), (4, vp 2 0), (12, va [ci a1.Log, ci a1.Boards, ci a1.Chips, ci a1.Dust, ci a1.Value, ci a2.Log, ci a2.Boards, ci a2.Chips, ci a2.Dust, ci a2.Value]), (13, vi x3), (43, vb x20)], [(0, bx 41 (qH a1)), (1, bx 41 (qH a2)), (2, bx 41 (qH o15))]⟩
def GG (a1 : Yield) (a2 : Yield) (x3 : Int) (x4 : Yield) : St :=
 ⟨[(2, vp 0 0), (3, vp 1 0), (4, vp 2 0), (12, va [ci a1.Log, ci a1.Boards, ci a1.Chips, ci a1.Dust, ci a1.Value, ci a2.Log, ci a2.Boards, ci a2.Chips, ci a2.Dust, ci a2.Value]), (13, vi x3)], [(0, bx 41 (qH a1)), (1, bx 41 (qH a2)), (2, bx 41 (qH x4))]⟩
def HJ (a1 : Yield) (a2 : Yield) (x22 : Yield) : St :=
 ⟨[(2, vp 0 0), (3, vp 1 0), (4, vp 2 0)], [(0, bx 41 (qH a1)), (1, bx 41 (qH a2)), (2, bx 41 (qH x22))]⟩
theorem qAp (E : Env 0) (a1 : Yield) (a2 : Yield) (x3 : Int) : ∀ (n : Nat) (x7 : Int) (x8 : Yield) (res : (Yield × Int) ⊕ Yield), qR a1 a2 x3 n x7 x8 = some res → HL (kx E 72 0) (nd Try.f18 27028) (jD 2 (fun o => HR a1 a2 x3 o) (fun v st => RetQ Try.prog Try.f18 (KY v) (KT v) .ret st) res) n (GI a1 a2 x3 x7 x8) := by
 intro n
 induction n with
 | zero =>
  intro x7 x8 res hm
  cases hm
 | succ n ih =>
  intro x7 x8 res hm
  refine qV ?_
  refine q_sq ?_
  refine q_vu [] 4 [] [(26, vb (decide (x7 < 4)))] [] [] ?_
  refine q_sq ?_
  refine q_cn (decide (x7 < 4)) (fun b9 => ?_) (fun b9 => ?_)
  ·replace hm := qA b9 hm
   refine q_sk ?_
   refine q_sq ?_
   refine q_bk 3 ?_
   refine q_sq ?_
   obtain ⟨g10, hm⟩ := qO hm
   refine q_vu [qd 0 (Dir.none) (inb_of g10)] 4 [26] [(9, vi (([([a1.Log, a1.Boards, a1.Chips, a1.Dust, a1.Value, a2.Log, a2.Boards, a2.Chips, a2.Dust, a2.Value] : List Int).getD (x3.toNat * 5 + 0) 0, ([a1.Log, a1.Boards, a1.Chips, a1.Dust, a1.Value, a2.Log, a2.Boards, a2.Chips, a2.Dust, a2.Value] : List Int).getD (x3.toNat * 5 + 1) 0, ([a1.Log, a1.Boards, a1.Chips, a1.Dust, a1.Value, a2.Log, a2.Boards, a2.Chips, a2.Dust, a2.Value] : List Int).getD (x3.toNat * 5 + 2) 0, ([a1.Log, a1.Boards, a1.Chips, a1.Dust, a1.Value, a2.Log, a2.Boards, a2.Chips, a2.Dust, a2.Value] : List Int).getD (x3.toNat * 5 + 3) 0] : List Int).getD x7.toNat 0))] [] [] ?_
   refine q_jn (ι := Bool) (fun p => HF a1 a2 x3 x7 x8 p) (fun p => FZ x7 x8 (qR a1 a2 x3 n) p = some res) ?_ ?_
   ·rintro x12 hm
    show H _ (HF a1 a2 x3 x7 x8 x12) _ _
    refine q_cn x12 (fun b13 => ?_) (fun b13 => ?_)
    ·replace hm := qA b13 hm
     refine q_sq ?_
     refine q_vn [] 4 ⟨[(4, vp 2 0), (5, vi 9)], [(2, bx 41 [ci 0, ci 0, ci 0, ci 0, ci 0])]⟩ ?_
     obtain rfl := Option.some.inj hm
     refine q_rt ?_
     refine zB ((Yield.mk 0 0 0 0 0), 9) ?_
     exact q_rm
    ·replace hm := qB b13 hm
     refine q_sk ?_
     refine q_vu [] 4 [25, 33] [(25, vi (w64 (x7 + 1)))] [] [] ?_
     exact q_hl (GI a1 a2 x3 (w64 (x7 + 1)) x8) (ih (w64 (x7 + 1)) x8 _ hm)
   ·rcases Bool.eq_false_or_eq_true (decide ((([([a1.Log, a1.Boards, a1.Chips, a1.Dust, a1.Value, a2.Log, a2.Boards, a2.Chips, a2.Dust, a2.Value] : List Int).getD (x3.toNat * 5 + 0) 0, ([a1.Log, a1.Boards, a1.Chips, a1.Dust, a1.Value, a2.Log, a2.Boards, a2.Chips, a2.Dust, a2.Value] : List Int).getD (x3.toNat * 5 + 1) 0, ([a1.Log, a1.Boards, a1.Chips, a1.Dust, a1.Value, a2.Log, a2.Boards, a2.Chips, a2.Dust, a2.Value] : List Int).getD (x3.toNat * 5 + 2) 0, ([a1.Log, a1.Boards, a1.Chips, a1.Dust, a1.Value, a2.Log, a2.Boards, a2.Chips, a2.Dust, a2.Value] : List Int).getD (x3.toNat * 5 + 3) 0] : List Int).getD x7.toNat 0) < 0)) with b11 | b11
    ·replace hm := qA b11 hm
     refine q_vu [qf 2 b11] 4 [9] [(33, vb true)] [] [] ?_
     exact q_J (true) hm
    ·replace hm := qB b11 hm
     refine q_vu [qf 2 b11] 4 [9] [(33, vb (decide ((([([a1.Log, a1.Boards, a1.Chips, a1.Dust, a1.Value, a2.Log, a2.Boards, a2.Chips, a2.Dust, a2.Value] : List Int).getD (x3.toNat * 5 + 0) 0, ([a1.Log, a1.Boards, a1.Chips, a1.Dust, a1.Value, a2.Log, a2.Boards, a2.Chips, a2.Dust, a2.Value] : List Int).getD (x3.toNat * 5 + 1) 0, ([a1.Log, a1.Boards, a1.Chips, a1.Dust, a1.Value, a2.Log, a2.Boards, a2.Chips, a2.Dust, a2.Value] : List Int).getD (x3.toNat * 5 + 2) 0, ([a1.Log, a1.Boards, a1.Chips, a1.Dust, a1.Value, a2.Log, a2.Boards, a2.Chips, a2.Dust, a2.Value] : List Int).getD (x3.toNat * 5 + 3) 0] : List Int).getD x7.toNat 0) > 2305843009213693952)))] [] [] ?_
     exact q_J (decide ((([([a1.Log, a1.Boards, a1.Chips, a1.Dust, a1.Value, a2.Log, a2.Boards, a2.Chips, a2.Dust, a2.Value] : List Int).getD (x3.toNat * 5 + 0) 0, ([a1.Log, a1.Boards, a1.Chips, a1.Dust, a1.Value, a2.Log, a2.Boards, a2.Chips, a2.Dust, a2.Value] : List Int).getD (x3.toNat * 5 + 1) 0, ([a1.Log, a1.Boards, a1.Chips, a1.Dust, a1.Value, a2.Log, a2.Boards, a2.Chips, a2.Dust, a2.Value] : List Int).getD (x3.toNat * 5 + 2) 0, ([a1.Log, a1.Boards, a1.Chips, a1.Dust, a1.Value, a2.Log, a2.Boards, a2.Chips, a2.Dust, a2.Value] : List Int).getD (x3.toNat * 5 + 3) 0] : List Int).getD x7.toNat 0) > 2305843009213693952)) hm
  ·replace hm := qB b9 hm
   refine q_ex 2 ?_
   obtain rfl := Option.some.inj hm
   exact jJ x8 (by kernel_rfl) (by kernel_rfl)
theorem qAo (E : Env 0) (a1 : Yield) (a2 : Yield) : ∀ (n : Nat) (x3 : Int) (x4 : Yield) (res : (Yield × Int) ⊕ Yield), zA a1 a2 n x3 x4 = some res → HL (kx E 72 0) (nd Try.f18 52) (jD 0 (fun o => HJ a1 a2 o) (fun v st => RetQ Try.prog Try.f18 (KY v) (KT v) .ret st) res) n (GG a1 a2 x3 x4) := by
 intro n
 induction n with
 | zero =>
  intro x3 x4 res hm
  cases hm
 | succ n ih =>
  intro x3 x4 res hm
  refine qV ?_
  refine q_sq ?_
  refine q_vu [] 3 [] [(14, vb (decide (x3 < 2)))] [] [] ?_
  refine q_sq ?_
  refine q_cn (decide (x3 < 2)) (fun b5 => ?_) (fun b5 => ?_)
  ·replace hm := qA b5 hm
   refine q_sk ?_
   refine q_sq ?_
   refine q_bk 1 ?_
   refine q_sq ?_
   obtain ⟨g6, hm⟩ := qO hm
   refine q_vu [qd 0 (Dir.none) (inb_of g6)] 3 [14] [(7, vp 3 0)] [] [(3, bx 41 [ci (([a1.Log, a1.Boards, a1.Chips, a1.Dust, a1.Value, a2.Log, a2.Boards, a2.Chips, a2.Dust, a2.Value] : List Int).getD (x3.toNat * 5 + 0) 0), ci (([a1.Log, a1.Boards, a1.Chips, a1.Dust, a1.Value, a2.Log, a2.Boards, a2.Chips, a2.Dust, a2.Value] : List Int).getD (x3.toNat * 5 + 1) 0), ci (([a1.Log, a1.Boards, a1.Chips, a1.Dust, a1.Value, a2.Log, a2.Boards, a2.Chips, a2.Dust, a2.Value] : List Int).getD (x3.toNat * 5 + 2) 0), ci (([a1.Log, a1.Boards, a1.Chips, a1.Dust, a1.Value, a2.Log, a2.Boards, a2.Chips, a2.Dust, a2.Value] : List Int).getD (x3.toNat * 5 + 3) 0), ci (([a1.Log, a1.Boards, a1.Chips, a1.Dust, a1.Value, a2.Log, a2.Boards, a2.Chips, a2.Dust, a2.Value] : List Int).getD (x3.toNat * 5 + 4) 0)])] ?_
   refine q_sq ?_
   refine q_sq ?_
   refine q_vu [] 4 [] [(24, va [ci (([a1.Log, a1.Boards, a1.Chips, a1.Dust, a1.Value, a2.Log, a2.Boards, a2.Chips, a2.Dust, a2.Value] : List Int).getD (x3.toNat * 5 + 0) 0), ci (([a1.Log, a1.Boards, a1.Chips, a1.Dust, a1.Value, a2.Log, a2.Boards, a2.Chips, a2.Dust, a2.Value] : List Int).getD (x3.toNat * 5 + 1) 0), ci (([a1.Log, a1.Boards, a1.Chips, a1.Dust, a1.Value, a2.Log, a2.Boards, a2.Chips, a2.Dust, a2.Value] : List Int).getD (x3.toNat * 5 + 2) 0), ci (([a1.Log, a1.Boards, a1.Chips, a1.Dust, a1.Value, a2.Log, a2.Boards, a2.Chips, a2.Dust, a2.Value] : List Int).getD (x3.toNat * 5 + 3) 0)]), (25, vi 0)] [] [] ?_
   obtain ⟨u17, h16, hm⟩ := qC hm
   refine zI (nd Try.f18 27028) 2 (by kernel_rfl) FUEL (fun o => HR a1 a2 x3 o) (fun v st => RetQ Try.prog Try.f18 (KY v) (KT v) .ret st) u17 (q_hl (GI a1 a2 x3 0 x4) (qAp E a1 a2 x3 FUEL 0 x4 u17 h16)) ?_ ?_
   ·rintro v18 rfl st hr
    obtain rfl := Option.some.inj hm
    exact zB v18 hr
   ·rintro o15 rfl
    replace hm : _ = some res := hm
    refine q_jn (ι := Bool) (fun p => HC a1 a2 x3 o15 p) (fun p => yJ x3 (zA a1 a2 n) o15 p = some res) ?_ ?_
    ·rintro x20 hm
     show H _ (HC a1 a2 x3 o15 x20) _ _
     refine q_cn x20 (fun b21 => ?_) (fun b21 => ?_)
     ·replace hm := qA b21 hm
      refine q_sq ?_
      refine q_vn [] 4 ⟨[(4, vp 2 0), (5, vi 9)], [(2, bx 41 [ci 0, ci 0, ci 0, ci 0, ci 0])]⟩ ?_
      obtain rfl := Option.some.inj hm
      refine q_rt ?_
      refine zB ((Yield.mk 0 0 0 0 0), 9) ?_
      exact q_rm
     ·replace hm := qB b21 hm
      refine q_sk ?_
      refine q_vu [] 4 [13, 43] [(13, vi (w64 (x3 + 1)))] [] [] ?_
      exact q_hl (GG a1 a2 (w64 (x3 + 1)) o15) (ih (w64 (x3 + 1)) o15 _ hm)
    ·rcases Bool.eq_false_or_eq_true (decide ((([a1.Log, a1.Boards, a1.Chips, a1.Dust, a1.Value, a2.Log, a2.Boards, a2.Chips, a2.Dust, a2.Value] : List Int).getD (x3.toNat * 5 + 4) 0) < (-2305843009213693952))) with b19 | b19
     ·replace hm := qA b19 hm
      refine q_vu [qf 3 b19] 4 [7] [(43, vb true)] [3] [] ?_
      exact q_J (true) hm
     ·replace hm := qB b19 hm
      refine q_vu [qf 3 b19] 4 [7] [(43, vb (decide ((([a1.Log, a1.Boards, a1.Chips, a1.Dust, a1.Value, a2.Log, a2.Boards, a2.Chips, a2.Dust, a2.Value] : List Int).getD (x3.toNat * 5 + 4) 0) > 2305843009213693952)))] [3] [] ?_
      exact q_J (decide ((([a1.Log, a1.Boards, a1.Chips, a1.Dust, a1.Value, a2.Log, a2.Boards, a2.Chips, a2.Dust, a2.Value] : List Int).getD (x3.toNat * 5 + 4) 0) > 2305843009213693952)) hm
  ·replace hm := qB b5 hm
   refine q_ex 0 ?_
   obtain rfl := Option.some.inj hm
   exact jJ x4 (by kernel_rfl) (by kernel_rfl)
theorem qCZ (a1 : Yield) (a2 : Yield) (r : Yield × Int) (hm : DE a1 a2 = some r) : CtX Try.prog globs 18 0 0 [.agg (qH a1), .agg (qH a2)] [] (KY r) (KT r) := by
 unfold DE at hm
 refine q_E Try.f18 72 fun E => ?_
 refine q_sq ?_
 refine q_vn [] 0 ⟨[(2, vp 0 0), (3, vp 1 0), (4, vp 2 0)], [(0, bx 41 (qH a1)), (1, bx 41 (qH a2)), (2, bx 41 [ci 0, ci 0, ci 0, ci 0, ci 0])]⟩ ?_
 refine q_sq ?_
 refine q_sq ?_
 refine q_vu [] 3 [] [(12, va [ci a1.Log, ci a1.Boards, ci a1.Chips, ci a1.Dust, ci a1.Value, ci a2.Log, ci a2.Boards, ci a2.Chips, ci a2.Dust, ci a2.Value]), (13, vi 0)] [] [] ?_
 obtain ⟨u25, h24, hm⟩ := qC hm
 refine zI (nd Try.f18 52) 0 (by kernel_rfl) FUEL (fun o => HJ a1 a2 o) (fun v st => RetQ Try.prog Try.f18 (KY v) (KT v) .ret st) u25 (q_hl (GG a1 a2 0 (Yield.mk 0 0 0 0 0)) (qAo E a1 a2 FUEL 0 (Yield.mk 0 0 0 0 0) u25 h24)) ?_ ?_
 ·rintro v26 rfl st hr
  obtain rfl := Option.some.inj hm
  exact hr
 ·rintro o23 rfl
  replace hm : _ = some r := hm
  refine q_sq ?_
  refine q_vn [] 3 ⟨[(4, vp 2 0), (5, vi 0)], [(2, bx 41 [ci (w64 (a1.Log + a2.Log)), ci (w64 (a1.Boards + a2.Boards)), ci (w64 (a1.Chips + a2.Chips)), ci (w64 (a1.Dust + a2.Dust)), ci (w64 (a1.Value + a2.Value))])]⟩ ?_
  obtain rfl := Option.some.inj hm
  refine q_rt ?_
  exact q_rm
def qDC (r : Bool) : V := vb r
def qDA (r : Bool) : List (Nat × (Nat × O)) := []
def LO (x3 : Bool) : St :=
 ⟨[(2, vb x3)], []⟩
theorem qM (a1 : Int) (r : Bool) (hm : wG a1 = some r) : CtX Try.prog globs 34 0 0 [.one (ci a1)] [] (qDC r) (qDA r) := by
 unfold wG at hm
 refine q_E Try.f34 9 fun E => ?_
 refine q_sq ?_
 refine q_vn [] 0 ⟨[(0, vi a1)], []⟩ ?_
 refine q_jn (ι := Bool) (fun p => LO p) (fun p => PI p = some r) ?_ ?_
 ·rintro x3 hm
  show H _ (LO x3) _ _
  obtain rfl := Option.some.inj hm
  refine q_rt ?_
  exact q_rm
 ·rcases Bool.eq_false_or_eq_true (decide (a1 ≥ 0)) with b2 | b2
  ·replace hm := qA b2 hm
   refine q_vn [qf 2 b2] 0 ⟨[(2, vb (decide (a1 ≤ 2305843009213693952)))], []⟩ ?_
   exact q_J (decide (a1 ≤ 2305843009213693952)) hm
  ·replace hm := qB b2 hm
   refine q_vn [qf 2 b2] 0 ⟨[(2, vb false)], []⟩ ?_
   exact q_J (false) hm
set_option maxRecDepth 100000
def qCB (r : Bool) : V := vb r
def qCp (r : Bool) : List (Nat × (Nat × O)) := []
def FM (x15 : Bool) : St :=
 ⟨[(2, vb x15)], []⟩
theorem VP (a1 : Yield) (r : Bool) (hm : JD a1 = some r) : CtX Try.prog globs 33 0 0 [.agg (qH a1)] [] (qCB r) (qCp r) := by
 unfold JD at hm
 refine q_E Try.f33 31 fun E => ?_
 refine q_sq ?_
 refine q_vn [] 0 ⟨[(1, vp 0 0)], [(0, bx 41 (qH a1))]⟩ ?_
 refine q_jn (ι := Bool) (fun p => FM p) (fun p => wJ p = some r) ?_ ?_
 ·rintro x15 hm
  show H _ (FM x15) _ _
  obtain rfl := Option.some.inj hm
  refine q_rt ?_
  exact q_rm
 ·obtain ⟨v2, h3, hm⟩ := qC hm
  rcases Bool.eq_false_or_eq_true v2 with b4 | b4
  ·replace hm := qA b4 hm
   obtain ⟨v5, h6, hm⟩ := qC hm
   rcases Bool.eq_false_or_eq_true v5 with b7 | b7
   ·replace hm := qA b7 hm
    obtain ⟨v8, h9, hm⟩ := qC hm
    rcases Bool.eq_false_or_eq_true v8 with b10 | b10
    ·replace hm := qA b10 hm
     obtain ⟨v11, h12, hm⟩ := qC hm
     rcases Bool.eq_false_or_eq_true v11 with b13 | b13
     ·replace hm := qA b13 hm
      rcases Bool.eq_false_or_eq_true (decide (a1.Value ≥ (-2305843009213693952))) with b14 | b14
      ·replace hm := qA b14 hm
       refine q_vn [qc 2 [4] 1 (qM a1.Log v2 h3), qf 3 b4, qk 6 [6, 8] 1 ⟨[(6, vb true), (8, vi a1.Boards)], []⟩ (qM a1.Boards v5 h6), qf 8 b7, qk 11 [11, 13] 1 ⟨[(11, vb true), (13, vi a1.Chips)], []⟩ (qM a1.Chips v8 h9), qf 13 b10, qk 16 [16, 18] 1 ⟨[(16, vb true), (18, vi a1.Dust)], []⟩ (qM a1.Dust v11 h12), qf 18 b13, qf 23 b14] 1 ⟨[(2, vb (decide (a1.Value ≤ 2305843009213693952)))], []⟩ ?_
       exact q_J (decide (a1.Value ≤ 2305843009213693952)) hm
      ·replace hm := qB b14 hm
       refine q_vn [qc 2 [4] 1 (qM a1.Log v2 h3), qf 3 b4, qk 6 [6, 8] 1 ⟨[(6, vb true), (8, vi a1.Boards)], []⟩ (qM a1.Boards v5 h6), qf 8 b7, qk 11 [11, 13] 1 ⟨[(11, vb true), (13, vi a1.Chips)], []⟩ (qM a1.Chips v8 h9), qf 13 b10, qk 16 [16, 18] 1 ⟨[(16, vb true), (18, vi a1.Dust)], []⟩ (qM a1.Dust v11 h12), qf 18 b13, qf 23 b14] 1 ⟨[(2, vb false)], []⟩ ?_
       exact q_J (false) hm
     ·replace hm := qB b13 hm
      refine q_vn [qc 2 [4] 1 (qM a1.Log v2 h3), qf 3 b4, qk 6 [6, 8] 1 ⟨[(6, vb true), (8, vi a1.Boards)], []⟩ (qM a1.Boards v5 h6), qf 8 b7, qk 11 [11, 13] 1 ⟨[(11, vb true), (13, vi a1.Chips)], []⟩ (qM a1.Chips v8 h9), qf 13 b10, qk 16 [16, 18] 1 ⟨[(16, vb true), (18, vi a1.Dust)], []⟩ (qM a1.Dust v11 h12), qf 18 b13] 1 ⟨[(2, vb false)], []⟩ ?_
      exact q_J (false) hm
    ·replace hm := qB b10 hm
     refine q_vn [qc 2 [4] 1 (qM a1.Log v2 h3), qf 3 b4, qk 6 [6, 8] 1 ⟨[(6, vb true), (8, vi a1.Boards)], []⟩ (qM a1.Boards v5 h6), qf 8 b7, qk 11 [11, 13] 1 ⟨[(11, vb true), (13, vi a1.Chips)], []⟩ (qM a1.Chips v8 h9), qf 13 b10] 1 ⟨[(2, vb false)], []⟩ ?_
     exact q_J (false) hm
   ·replace hm := qB b7 hm
    refine q_vn [qc 2 [4] 1 (qM a1.Log v2 h3), qf 3 b4, qk 6 [6, 8] 1 ⟨[(6, vb true), (8, vi a1.Boards)], []⟩ (qM a1.Boards v5 h6), qf 8 b7] 1 ⟨[(2, vb false)], []⟩ ?_
    exact q_J (false) hm
  ·replace hm := qB b4 hm
   refine q_vn [qc 2 [4] 1 (qM a1.Log v2 h3), qf 3 b4] 1 ⟨[(2, vb false)], []⟩ ?_
   exact q_J (false) hm
open Go.Proofs
set_option maxHeartbeats 4000000
set_option maxRecDepth 100000
def qD1 (r : Yield × Int) : V := .tup [.agg (qH r.1), .one (ci r.2)]
def qDP (r : Yield × Int) : List (Nat × (Nat × O)) := []
def HQ (a1 : Yield) (a2 : Yield) (x8 : Bool) : St :=
 ⟨[(2, vp 0 0), (3, vp 1 0), (4, vp 2 0), (13, vb x8)], [(0, bx 41 (qH a1)), (1, bx 41 (qH a2)), (2, bx 41 [ci 0, ci 0, ci 0, ci 0, ci 0])]⟩
theorem qDz (a1 : Yield) (a2 : Yield) (r : Yield × Int) (hm : DN a1 a2 = some r) : CtX Try.prog globs 19 0 0 [.agg (qH a1), .agg (qH a2)] [] (qD1 r) (qDP r) := by
 unfold DN at hm
 refine q_E Try.f19 41 fun E => ?_
 refine q_sq ?_
 refine q_vn [] 0 ⟨[(2, vp 0 0), (3, vp 1 0), (4, vp 2 0)], [(0, bx 41 (qH a1)), (1, bx 41 (qH a2)), (2, bx 41 [ci 0, ci 0, ci 0, ci 0, ci 0])]⟩ ?_
 refine q_sq ?_
 refine q_jn (ι := Bool) (fun p => HQ a1 a2 p) (fun p => TI a1 a2 p = some r) ?_ ?_
 ·rintro x8 hm
  show H _ (HQ a1 a2 x8) _ _
  refine q_cn x8 (fun b9 => ?_) (fun b9 => ?_)
  ·replace hm := qA b9 hm
   refine q_sq ?_
   refine q_vu [] 3 [2, 3, 13] [(5, vi 9)] [0, 1] [] ?_
   obtain rfl := Option.some.inj hm
   refine q_rt ?_
   exact q_rm
  ·replace hm := qB b9 hm
   refine q_sk ?_
   refine q_sq ?_
   refine q_vn [] 3 ⟨[(4, vp 2 0), (5, vi 0)], [(2, bx 41 [ci (w64 (a1.Log + a2.Log)), ci (w64 (a1.Boards + a2.Boards)), ci (w64 (a1.Chips + a2.Chips)), ci (w64 (a1.Dust + a2.Dust)), ci (w64 (a1.Value + a2.Value))])]⟩ ?_
   obtain rfl := Option.some.inj hm
   refine q_rt ?_
   exact q_rm
 ·obtain ⟨v3, h4, hm⟩ := qC hm
  rcases Bool.eq_false_or_eq_true (!v3) with b5 | b5
  ·replace hm := qA b5 hm
   refine q_vu [qc 1 [6] 3 (VP a1 v3 h4), qf 3 b5] 3 [] [(13, vb true)] [] [] ?_
   exact q_J (true) hm
  ·replace hm := qB b5 hm
   obtain ⟨v6, h7, hm⟩ := qC hm
   refine q_vu [qc 1 [6] 3 (VP a1 v3 h4), qf 3 b5, qk 5 [9, 10] 3 ⟨[(9, vb false), (10, va (qH a2))], []⟩ (VP a2 v6 h7)] 3 [] [(13, vb (!v6))] [] [] ?_
   exact q_J (!v6) hm
def RB (r : Bool) : V := vb r
def PK (r : Bool) : List (Nat × (Nat × O)) := []
def VB (a1 : Yield) (x2 : Int) (x6 : Bool) : St :=
 ⟨[(1, vp 0 0), (13, va [ci a1.Log, ci a1.Boards, ci a1.Chips, ci a1.Dust]), (14, vi x2), (22, vb x6)], [(0, bx 41 (qH a1))]⟩
def JF (a1 : Yield) (x2 : Int) : St :=
 ⟨[(1, vp 0 0), (13, va [ci a1.Log, ci a1.Boards, ci a1.Chips, ci a1.Dust]), (14, vi x2)], [(0, bx 41 (qH a1))]⟩
def UZ (a1 : Yield) : St :=
 ⟨[(1, vp 0 0)], [(0, bx 41 (qH a1))]⟩
theorem SD (E : Env 0) (a1 : Yield) : ∀ (n : Nat) (x2 : Int) (res : Bool ⊕ Unit), qW a1 n x2 = some res → HL (kx E 35 0) (nd Try.f12 52) (jD 0 (fun o => UZ a1) (fun v st => RetQ Try.prog Try.f12 (RB v) (PK v) .ret st) res) n (JF a1 x2) := by
 intro n
 induction n with
 | zero =>
  intro x2 res hm
  cases hm
 | succ n ih =>
  intro x2 res hm
  refine qV ?_
  refine q_sq ?_
  refine q_vu [] 1 [] [(15, vb (decide (x2 < 4)))] [] [] ?_
  refine q_sq ?_
  refine q_cn (decide (x2 < 4)) (fun b3 => ?_) (fun b3 => ?_)
  ·replace hm := qA b3 hm
   refine q_sk ?_
   refine q_sq ?_
   refine q_bk 1 ?_
   refine q_sq ?_
   obtain ⟨g4, hm⟩ := qO hm
   refine q_vu [qd 0 (Dir.none) (inb_of g4)] 1 [15] [(4, vi (([a1.Log, a1.Boards, a1.Chips, a1.Dust] : List Int).getD x2.toNat 0))] [] [] ?_
   refine q_jn (ι := Bool) (fun p => VB a1 x2 p) (fun p => KJ x2 (qW a1 n) p = some res) ?_ ?_
   ·rintro x6 hm
    show H _ (VB a1 x2 x6) _ _
    refine q_cn x6 (fun b7 => ?_) (fun b7 => ?_)
    ·replace hm := qA b7 hm
     refine q_sq ?_
     refine q_vn [] 1 ⟨[(2, vb false)], []⟩ ?_
     obtain rfl := Option.some.inj hm
     refine q_rt ?_
     refine zB false ?_
     exact q_rm
    ·replace hm := qB b7 hm
     refine q_sk ?_
     refine q_vu [] 1 [14, 22] [(14, vi (w64 (x2 + 1)))] [] [] ?_
     exact q_hl (JF a1 (w64 (x2 + 1))) (ih (w64 (x2 + 1)) _ hm)
   ·rcases Bool.eq_false_or_eq_true (decide ((([a1.Log, a1.Boards, a1.Chips, a1.Dust] : List Int).getD x2.toNat 0) < 0)) with b5 | b5
    ·replace hm := qA b5 hm
     refine q_vu [qf 2 b5] 1 [4] [(22, vb true)] [] [] ?_
     exact q_J (true) hm
    ·replace hm := qB b5 hm
     refine q_vu [qf 2 b5] 1 [4] [(22, vb (decide ((([a1.Log, a1.Boards, a1.Chips, a1.Dust] : List Int).getD x2.toNat 0) > 2305843009213693952)))] [] [] ?_
     exact q_J (decide ((([a1.Log, a1.Boards, a1.Chips, a1.Dust] : List Int).getD x2.toNat 0) > 2305843009213693952)) hm
  ·replace hm := qB b3 hm
   refine q_ex 0 ?_
   obtain rfl := Option.some.inj hm
   exact jJ () (by kernel_rfl) (by kernel_rfl)
theorem wY (a1 : Yield) (r : Bool) (hm : jG a1 = some r) : CtX Try.prog globs 12 0 0 [.agg (qH a1)] [] (RB r) (PK r) := by
 unfold jG at hm
 refine q_E Try.f12 35 fun E => ?_
 refine q_sq ?_
 refine q_vn [] 0 ⟨[(1, vp 0 0)], [(0, bx 41 (qH a1))]⟩ ?_
 refine q_sq ?_
 refine q_sq ?_
 refine q_vu [] 1 [] [(13, va [ci a1.Log, ci a1.Boards, ci a1.Chips, ci a1.Dust]), (14, vi 0)] [] [] ?_
 obtain ⟨u10, h9, hm⟩ := qC hm
 refine zI (nd Try.f12 52) 0 (by kernel_rfl) FUEL (fun o => UZ a1) (fun v st => RetQ Try.prog Try.f12 (RB v) (PK v) .ret st) u10 (q_hl (JF a1 0) (SD E a1 FUEL 0 u10 h9)) ?_ ?_
 ·rintro v11 rfl st hr
  obtain rfl := Option.some.inj hm
  exact hr
 ·rintro o8 rfl
  replace hm : _ = some r := hm
  refine q_sq ?_
  refine q_vn [] 1 ⟨[(2, vb (a1.Log == (w64 ((w64 (a1.Boards + a1.Chips)) + a1.Dust))))], []⟩ ?_
  obtain rfl := Option.some.inj hm
  refine q_rt ?_
  exact q_rm
set_option maxRecDepth 100000
def CW (r : Bool) : V := vb r
def qAf (r : Bool) : List (Nat × (Nat × O)) := []
def VD (x14 : Bool) : St :=
 ⟨[(2, vb x14)], []⟩
theorem jW (a1 : Yield) (r : Bool) (hm : yG a1 = some r) : CtX Try.prog globs 20 0 0 [.agg (qH a1)] [] (CW r) (qAf r) := by
 unfold yG at hm
 refine q_E Try.f20 34 fun E => ?_
 refine q_sq ?_
 refine q_vn [] 0 ⟨[(1, vp 0 0)], [(0, bx 41 (qH a1))]⟩ ?_
 refine q_jn (ι := Bool) (fun p => VD p) (fun p => zV p = some r) ?_ ?_
 ·rintro x14 hm
  show H _ (VD x14) _ _
  obtain rfl := Option.some.inj hm
  refine q_rt ?_
  exact q_rm
 ·obtain ⟨v2, h3, hm⟩ := qC hm
  rcases Bool.eq_false_or_eq_true v2 with b4 | b4
  ·replace hm := qA b4 hm
   obtain ⟨v5, h6, hm⟩ := qC hm
   rcases Bool.eq_false_or_eq_true v5 with b7 | b7
   ·replace hm := qA b7 hm
    obtain ⟨v8, h9, hm⟩ := qC hm
    rcases Bool.eq_false_or_eq_true v8 with b10 | b10
    ·replace hm := qA b10 hm
     obtain ⟨v11, h12, hm⟩ := qC hm
     rcases Bool.eq_false_or_eq_true v11 with b13 | b13
     ·replace hm := qA b13 hm
      refine q_vn [qc 2 [4] 1 (qM a1.Log v2 h3), qf 3 b4, qk 6 [6, 8] 1 ⟨[(6, vb true), (8, vi a1.Boards)], []⟩ (qM a1.Boards v5 h6), qf 8 b7, qk 11 [11, 13] 1 ⟨[(11, vb true), (13, vi a1.Chips)], []⟩ (qM a1.Chips v8 h9), qf 13 b10, qk 16 [16, 18] 1 ⟨[(16, vb true), (18, vi a1.Dust)], []⟩ (qM a1.Dust v11 h12), qf 18 b13] 1 ⟨[(2, vb ((w64 ((w64 (a1.Log - a1.Boards)) - a1.Chips)) == a1.Dust))], []⟩ ?_
      exact q_J ((w64 ((w64 (a1.Log - a1.Boards)) - a1.Chips)) == a1.Dust) hm
     ·replace hm := qB b13 hm
      refine q_vn [qc 2 [4] 1 (qM a1.Log v2 h3), qf 3 b4, qk 6 [6, 8] 1 ⟨[(6, vb true), (8, vi a1.Boards)], []⟩ (qM a1.Boards v5 h6), qf 8 b7, qk 11 [11, 13] 1 ⟨[(11, vb true), (13, vi a1.Chips)], []⟩ (qM a1.Chips v8 h9), qf 13 b10, qk 16 [16, 18] 1 ⟨[(16, vb true), (18, vi a1.Dust)], []⟩ (qM a1.Dust v11 h12), qf 18 b13] 1 ⟨[(2, vb false)], []⟩ ?_
      exact q_J (false) hm
    ·replace hm := qB b10 hm
     refine q_vn [qc 2 [4] 1 (qM a1.Log v2 h3), qf 3 b4, qk 6 [6, 8] 1 ⟨[(6, vb true), (8, vi a1.Boards)], []⟩ (qM a1.Boards v5 h6), qf 8 b7, qk 11 [11, 13] 1 ⟨[(11, vb true), (13, vi a1.Chips)], []⟩ (qM a1.Chips v8 h9), qf 13 b10] 1 ⟨[(2, vb false)], []⟩ ?_
     exact q_J (false) hm
   ·replace hm := qB b7 hm
    refine q_vn [qc 2 [4] 1 (qM a1.Log v2 h3), qf 3 b4, qk 6 [6, 8] 1 ⟨[(6, vb true), (8, vi a1.Boards)], []⟩ (qM a1.Boards v5 h6), qf 8 b7] 1 ⟨[(2, vb false)], []⟩ ?_
    exact q_J (false) hm
  ·replace hm := qB b4 hm
   refine q_vn [qc 2 [4] 1 (qM a1.Log v2 h3), qf 3 b4] 1 ⟨[(2, vb false)], []⟩ ?_
   exact q_J (false) hm
open Go.Proofs
set_option maxHeartbeats 4000000
set_option maxRecDepth 100000
def IV (r : Int) : V := vc (.val (.int .u64 r))
def OG (r : Int) : List (Nat × (Nat × O)) := []
theorem GY (a1 : Int) (r : Int) (hm : QL a1 = some r) : CtX Try.prog globs 46 0 0 [.one (ci a1)] [] (IV r) (OG r) := by
 unfold QL at hm
 refine q_E Try.f46 10 fun E => ?_
 refine q_sq ?_
 refine q_vn [] 0 ⟨[(0, vi a1)], []⟩ ?_
 refine q_sq ?_
 refine q_sq ?_
 refine q_vu [] 0 [] [(4, vb (decide (a1 < 0)))] [] [] ?_
 refine q_cn (decide (a1 < 0)) (fun b2 => ?_) (fun b2 => ?_)
 ·replace hm := qA b2 hm
  refine q_sq ?_
  refine q_vn [] 0 ⟨[(2, vc (.val (.int .u64 (IntKind.u64.wrap (0 - (IntKind.u64.wrap (a1)))))))], []⟩ ?_
  obtain rfl := Option.some.inj hm
  refine q_rt ?_
  exact q_rm
 ·replace hm := qB b2 hm
  refine q_sk ?_
  refine q_sq ?_
  refine q_vn [] 0 ⟨[(2, vc (.val (.int .u64 (IntKind.u64.wrap (a1)))))], []⟩ ?_
  obtain rfl := Option.some.inj hm
  refine q_rt ?_
  exact q_rm
def IZ (r : Int × Int) : V := .tup [.one (.val (.int .u64 r.1)), .one (.val (.int .u64 r.2))]
def IR (r : Int × Int) : List (Nat × (Nat × O)) := []
theorem AD (a1 : Int) (a2 : Int) (r : Int × Int) (hm : QB a1 a2 = some r) : CtX Try.prog globs 45 0 0 [.one (.val (.int .u64 a1)), .one (.val (.int .u64 a2))] [] (IZ r) (IR r) := by
 unfold QB at hm
 refine q_E Try.f45 51 fun E => ?_
 refine q_sq ?_
 refine q_vn [] 0 ⟨[(0, vc (.val (.int .u64 a1))), (1, vc (.val (.int .u64 a2)))], []⟩ ?_
 refine q_sq ?_
 refine q_vu [] 0 [] [(6, vc (.val (.int .u64 (andI .u64 a1 4294967295))))] [] [] ?_
 refine q_sq ?_
 refine q_vu [qd 1 (Dir.none) (show ¬ (32 : Int) < 0 by decide)] 0 [] [(7, vc (.val (.int .u64 (shrI .u64 a1 32))))] [] [] ?_
 refine q_sq ?_
 refine q_vu [] 0 [] [(8, vc (.val (.int .u64 (andI .u64 a2 4294967295))))] [] [] ?_
 refine q_sq ?_
 refine q_vu [qd 1 (Dir.none) (show ¬ (32 : Int) < 0 by decide)] 0 [] [(9, vc (.val (.int .u64 (shrI .u64 a2 32))))] [] [] ?_
 refine q_sq ?_
 refine q_vu [] 0 [] [(10, vc (.val (.int .u64 (IntKind.u64.wrap ((andI .u64 a1 4294967295) * (andI .u64 a2 4294967295))))))] [] [] ?_
 refine q_sq ?_
 refine q_vu [qd 4 (Dir.none) (show ¬ (32 : Int) < 0 by decide)] 0 [8, 10] [(11, vc (.val (.int .u64 (IntKind.u64.wrap ((IntKind.u64.wrap ((shrI .u64 a1 32) * (andI .u64 a2 4294967295))) + (shrI .u64 (IntKind.u64.wrap ((andI .u64 a1 4294967295) * (andI .u64 a2 4294967295))) 32))))))] [] [] ?_
 refine q_sq ?_
 refine q_vu [] 0 [] [(12, vc (.val (.int .u64 (andI .u64 (IntKind.u64.wrap ((IntKind.u64.wrap ((shrI .u64 a1 32) * (andI .u64 a2 4294967295))) + (shrI .u64 (IntKind.u64.wrap ((andI .u64 a1 4294967295) * (andI .u64 a2 4294967295))) 32))) 4294967295))))] [] [] ?_
 refine q_sq ?_
 refine q_vu [qd 1 (Dir.none) (show ¬ (32 : Int) < 0 by decide)] 0 [11] [(13, vc (.val (.int .u64 (shrI .u64 (IntKind.u64.wrap ((IntKind.u64.wrap ((shrI .u64 a1 32) * (andI .u64 a2 4294967295))) + (shrI .u64 (IntKind.u64.wrap ((andI .u64 a1 4294967295) * (andI .u64 a2 4294967295))) 32))) 32))))] [] [] ?_
 refine q_sq ?_
 refine q_vu [] 0 [6, 12] [(12, vc (.val (.int .u64 (IntKind.u64.wrap ((andI .u64 (IntKind.u64.wrap ((IntKind.u64.wrap ((shrI .u64 a1 32) * (andI .u64 a2 4294967295))) + (shrI .u64 (IntKind.u64.wrap ((andI .u64 a1 4294967295) * (andI .u64 a2 4294967295))) 32))) 4294967295) + (IntKind.u64.wrap ((andI .u64 a1 4294967295) * (shrI .u64 a2 32))))))))] [] [] ?_
 refine q_sq ?_
 refine q_vu [qd 6 (Dir.none) (show ¬ (32 : Int) < 0 by decide)] 0 [7, 9, 12, 13] [(4, vc (.val (.int .u64 (IntKind.u64.wrap ((IntKind.u64.wrap ((IntKind.u64.wrap ((shrI .u64 a1 32) * (shrI .u64 a2 32))) + (shrI .u64 (IntKind.u64.wrap ((IntKind.u64.wrap ((shrI .u64 a1 32) * (andI .u64 a2 4294967295))) + (shrI .u64 (IntKind.u64.wrap ((andI .u64 a1 4294967295) * (andI .u64 a2 4294967295))) 32))) 32))) + (shrI .u64 (IntKind.u64.wrap ((andI .u64 (IntKind.u64.wrap ((IntKind.u64.wrap ((shrI .u64 a1 32) * (andI .u64 a2 4294967295))) + (shrI .u64 (IntKind.u64.wrap ((andI .u64 a1 4294967295) * (andI .u64 a2 4294967295))) 32))) 4294967295) + (IntKind.u64.wrap ((andI .u64 a1 4294967295) * (shrI .u64 a2 32))))) 32))))))] [] [] ?_
 refine q_sq ?_
 refine q_vu [] 0 [0, 1] [(5, vc (.val (.int .u64 (IntKind.u64.wrap (a1 * a2)))))] [] [] ?_
 obtain rfl := Option.some.inj hm
 refine q_rt ?_
 exact q_rm
set_option maxRecDepth 100000
def IY (r : Int) : V := vi r
def OL (r : Int) : List (Nat × (Nat × O)) := []
def TT (x9 : Int) (x10 : Int) : St :=
 ⟨[(0, vc (.val (.int .u64 x9))), (2, vi x10)], []⟩
def TM (x6 : Int) (x7 : Int) : St :=
 ⟨[(0, vc (.val (.int .u64 x6))), (2, vi x7)], []⟩
def UQ (x3 : Int) (x4 : Int) : St :=
 ⟨[(0, vc (.val (.int .u64 x3))), (2, vi x4)], []⟩
theorem EU (a1 : Int) (r : Int) (hm : QD a1 = some r) : CtX Try.prog globs 87 0 0 [.one (.val (.int .u64 a1))] [] (IY r) (OL r) := by
 unfold QD at hm
 refine q_E Try.f87 25 fun E => ?_
 refine q_sq ?_
 refine q_vn [] 0 ⟨[(0, vc (.val (.int .u64 a1))), (2, vi 0)], []⟩ ?_
 refine q_jn (ι := Int × Int) (fun p => UQ p.1 p.2) (fun p => jM p.1 p.2 = some r) ?_ ?_
 ·rintro ⟨x3, x4⟩ hm
  show H _ (UQ x3 x4) _ _
  refine q_jn (ι := Int × Int) (fun p => TM p.1 p.2) (fun p => jN p.1 p.2 = some r) ?_ ?_
  ·rintro ⟨x6, x7⟩ hm
   show H _ (TM x6 x7) _ _
   refine q_jn (ι := Int × Int) (fun p => TT p.1 p.2) (fun p => zE p.1 p.2 = some r) ?_ ?_
   ·rintro ⟨x9, x10⟩ hm
    show H _ (TT x9 x10) _ _
    refine q_sq ?_
    obtain ⟨g11, hm⟩ := qO hm
    refine q_vn [qd 3 (Dir.none) (inb_of g11)] 0 ⟨[(2, vi (w64 (x10 + (w64 (wH (ByteArray.mk #[0, 1, 2, 2, 3, 3, 3, 3, 4, 4, 4, 4, 4, 4, 4, 4, 5, 5, 5, 5, 5, 5, 5, 5, 5, 5, 5, 5, 5, 5, 5, 5, 6, 6, 6, 6, 6, 6, 6, 6, 6, 6, 6, 6, 6, 6, 6, 6, 6, 6, 6, 6, 6, 6, 6, 6, 6, 6, 6, 6, 6, 6, 6, 6, 7, 7, 7, 7, 7, 7, 7, 7, 7, 7, 7, 7, 7, 7, 7, 7, 7, 7, 7, 7, 7, 7, 7, 7, 7, 7, 7, 7, 7, 7, 7, 7, 7, 7, 7, 7, 7, 7, 7, 7, 7, 7, 7, 7, 7, 7, 7, 7, 7, 7, 7, 7, 7, 7, 7, 7, 7, 7, 7, 7, 7, 7, 7, 7, 8, 8, 8, 8, 8, 8, 8, 8, 8, 8, 8, 8, 8, 8, 8, 8, 8, 8, 8, 8, 8, 8, 8, 8, 8, 8, 8, 8, 8, 8, 8, 8, 8, 8, 8, 8, 8, 8, 8, 8, 8, 8, 8, 8, 8, 8, 8, 8, 8, 8, 8, 8, 8, 8, 8, 8, 8, 8, 8, 8, 8, 8, 8, 8, 8, 8, 8, 8, 8, 8, 8, 8, 8, 8, 8, 8, 8, 8, 8, 8, 8, 8, 8, 8, 8, 8, 8, 8, 8, 8, 8, 8, 8, 8, 8, 8, 8, 8, 8, 8, 8, 8, 8, 8, 8, 8, 8, 8, 8, 8, 8, 8, 8, 8, 8, 8, 8, 8, 8, 8, 8, 8, 8, 8, 8, 8, 8, 8]) ((IntKind.u8.wrap (x9)).toNat))))))], []⟩ ?_
    obtain rfl := Option.some.inj hm
    refine q_rt ?_
    exact q_rm
   ·refine q_sq ?_
    refine q_vu [] 0 [] [(14, vb (decide (x6 ≥ 256)))] [] [] ?_
    refine q_cn (decide (x6 ≥ 256)) (fun b8 => ?_) (fun b8 => ?_)
    ·replace hm := qA b8 hm
     refine q_sq ?_
     refine q_vu [qd 1 (Dir.none) (show ¬ (8 : Int) < 0 by decide)] 0 [0, 14] [(0, vc (.val (.int .u64 (shrI .u64 x6 8))))] [] [] ?_
     refine q_vu [] 0 [2] [(2, vi (w64 (x7 + 8)))] [] [] ?_
     exact q_J (shrI .u64 x6 8, w64 (x7 + 8)) hm
    ·replace hm := qB b8 hm
     refine q_sk ?_
     exact q_J (x6, x7) hm
  ·refine q_sq ?_
   refine q_vu [] 0 [] [(8, vb (decide (x3 ≥ 65536)))] [] [] ?_
   refine q_cn (decide (x3 ≥ 65536)) (fun b5 => ?_) (fun b5 => ?_)
   ·replace hm := qA b5 hm
    refine q_sq ?_
    refine q_vu [qd 1 (Dir.none) (show ¬ (16 : Int) < 0 by decide)] 0 [0, 8] [(0, vc (.val (.int .u64 (shrI .u64 x3 16))))] [] [] ?_
    refine q_vu [] 0 [2] [(2, vi (w64 (x4 + 16)))] [] [] ?_
    exact q_J (shrI .u64 x3 16, w64 (x4 + 16)) hm
   ·replace hm := qB b5 hm
    refine q_sk ?_
    exact q_J (x3, x4) hm
 ·refine q_sq ?_
  refine q_vu [] 0 [] [(4, vb (decide (a1 ≥ 4294967296)))] [] [] ?_
  refine q_cn (decide (a1 ≥ 4294967296)) (fun b2 => ?_) (fun b2 => ?_)
  ·replace hm := qA b2 hm
   refine q_sq ?_
   refine q_vn [qd 1 (Dir.none) (show ¬ (32 : Int) < 0 by decide)] 0 ⟨[(0, vc (.val (.int .u64 (shrI .u64 a1 32))))], []⟩ ?_
   refine q_vu [] 0 [] [(2, vi 32)] [] [] ?_
   exact q_J (shrI .u64 a1 32, 32) hm
  ·replace hm := qB b2 hm
   refine q_sk ?_
   exact q_J (a1, 0) hm
open Go.Proofs
set_option maxHeartbeats 4000000
set_option maxRecDepth 100000
def DY (r : Int) : V := vi r
def BB (r : Int) : List (Nat × (Nat × O)) := []
theorem DG (a1 : Int) (r : Int) (hm : wV a1 = some r) : CtX Try.prog globs 66 0 0 [.one (.val (.int .u64 a1))] [] (DY r) (BB r) := by
 unfold wV at hm
 refine q_E Try.f66 6 fun E => ?_
 refine q_sq ?_
 refine q_vn [] 0 ⟨[(0, vc (.val (.int .u64 a1)))], []⟩ ?_
 refine q_sq ?_
 obtain ⟨v2, h3, hm⟩ := qC hm
 refine q_vn [qc 1 [3] 0 (EU a1 v2 h3)] 0 ⟨[(2, vi (w64 (64 - v2)))], []⟩ ?_
 obtain rfl := Option.some.inj hm
 refine q_rt ?_
 exact q_rm
end Saw
end Go.SL
