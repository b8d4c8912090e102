import Derived.Test.YtjobdnkaonbgnaaEBase
set_option linter.unusedVariables false
set_option linter.unusedSimpArgs false
namespace Go.SL
namespace Saw
open Go.Proofs
set_option maxHeartbeats 4000000
set_option maxRecDepth 100000
def KC (r : Yield × Int) : V := .tup [.agg (qL r.1), .one (ci r.2)]
def KF (r : Yield × Int) : List (Nat × (Nat × O)) := []
def MJ (a1 : Yield) (a2 : Yield) (x3 : Int) (x7 : Int) (x8 : Yield) (x12 : Bool) : St :=
 ⟨[(2, vp 0 0), (3, vp 1 0), (4, vp 2 0), (7, vp 3 0), (12, va [ci a1.Log, ci a1.Boards, ci a1.Chips, ci a1.Dust, ci a1.Value, ci a2.Log, ci a2.Boards, ci a2.Chips, ci a2.Dust, ci a2.Value]), (13, vi x3), (24, va [ci (([a1.Log, a1.Boards, a1.Chips, a1.Dust, a1.Value, a2.Log, a2.Boards, a2.Chips, a2.Dust, a2.Value] : List Int).getD (x3.toNat * 5 + 0) 0), ci (([a1.Log, a1.Boards, a1.Chips, a1.Dust, a1.Value, a2.Log, a2.Boards, a2.Chips, a2.Dust, a2.Value] : List Int).getD (x3.toNat * 5 + 1) 0), ci (([a1.Log, a1.Boards, a1.Chips, a1.Dust, a1.Value, a2.Log, a2.Boards, a2.Chips, a2.Dust, a2.Value] : List Int).getD (x3.toNat * 5 + 2) 0), ci (([a1.Log, a1.Boards, a1.Chips, a1.Dust, a1.Value, a2.Log, a2.Boards, a2.Chips, a2.Dust, a2.Value] : List Int).getD (x3.toNat * 5 + 3) 0)]), (25, vi x7), (33, vb x12)], [(0, bx 41 (qL a1)), (1, bx 41 (qL a2)), (2, bx 41 (qL x8)), (3, bx 41 [ci (([a1.Log, a1.Boards, a1.Chips, a1.Dust, a1.Value, a2.Log, a2.Boards, a2.Chips, a2.Dust, a2.Value] : List Int).getD (x3.toNat * 5 + 0) 0), ci (([a1.Log, a1.Boards, a1.Chips, a1.Dust, a1.Value, a2.Log, a2.Boards, a2.Chips, a2.Dust, a2.Value] : List Int).getD (x3.toNat * 5 + 1) 0), ci (([a1.Log, a1.Boards, a1.Chips, a1.Dust, a1.Value, a2.Log, a2.Boards, a2.Chips, a2.Dust, a2.Value] : List Int).getD (x3.toNat * 5 + 2) 0), ci (([a1.Log, a1.Boards, a1.Chips, a1.Dust, a1.Value, a2.Log, a2.Boards, a2.Chips, a2.Dust, a2.Value] : List Int).getD (x3.toNat * 5 + 3) 0), ci (([a1.Log, a1.Boards, a1.Chips, a1.Dust, a1.Value, a2.Log, a2.Boards, a2.Chips, a2.Dust, a2.Value] : List Int).getD (x3.toNat * 5 + 4) 0)])]⟩
def UY (a1 : Yield) (a2 : Yield) (x3 : Int) (x7 : Int) (x8 : Yield) : St :=
 ⟨[(2, vp 0 0), (3, vp 1 0), (4, vp 2 0), (7, vp 3 0), (12, va [ci a1.Log, ci a1.Boards, ci a1.Chips, ci a1.Dust, ci a1.Value, ci a2.Log, ci a2.Boards, ci a2.Chips, ci a2.Dust, ci a2.Value]), (13, vi x3), (24, va [ci (([a1.Log, a1.Boards, a1.Chips, a1.Dust, a1.Value, a2.Log, a2.Boards, a2.Chips, a2.Dust, a2.Value] : List Int).getD (x3.toNat * 5 + 0) 0), ci (([a1.Log, a1.Boards, a1.Chips, a1.Dust, a1.Value, a2.Log, a2.Boards, a2.Chips, a2.Dust, a2.Value] : List Int).getD (x3.toNat * 5 + 1) 0), ci (([a1.Log, a1.Boards, a1.Chips, a1.Dust, a1.Value, a2.Log, a2.Boards, a2.Chips, a2.Dust, a2.Value] : List Int).getD (x3.toNat * 5 + 2) 0), ci (([a1.Log, a1.Boards, a1.Chips, a1.Dust, a1.Value, a2.Log, a2.Boards, a2.Chips, a2.Dust, a2.Value] : List Int).getD (x3.toNat * 5 + 3) 0)]), (25, vi x7)], [(0, bx 41 (qL a1)), (1, bx 41 (qL a2)), (2, bx 41 (qL x8)), (3, bx 41 [ci (([a1.Log, a1.Boards, a1.Chips, a1.Dust, a1.Value, a2.Log, a2.Boards, a2.Chips, a2.Dust, a2.Value] : List Int).getD (x3.toNat * 5 + 0) 0), ci (([a1.Log, a1.Boards, a1.Chips, a1.Dust, a1.Value, a2.Log, a2.Boards, a2.Chips, a2.Dust, a2.Value] : List Int).getD (x3.toNat * 5 + 1) 0), ci (([a1.Log, a1.Boards, a1.Chips, a1.Dust, a1.Value, a2.Log, a2.Boards, a2.Chips, a2.Dust, a2.Value] : List Int).getD (x3.toNat * 5 + 2) 0), ci (([a1.Log, a1.Boards, a1.Chips, a1.Dust, a1.Value, a2.Log, a2.Boards, a2.Chips, a2.Dust, a2.Value] : List Int).getD (x3.toNat * 5 + 3) 0), ci (([a1.Log, a1.Boards, a1.Chips, a1.Dust, a1.Value, a2.Log, a2.Boards, a2.Chips, a2.Dust, a2.Value] : List Int).getD (x3.toNat * 5 + 4) 0)])]⟩
def ML (a1 : Yield) (a2 : Yield) (x3 : Int) (x14 : Yield) : St :=
 ⟨[(2, vp 0 0), (3, vp 1 0), (4, vp 2 0), (7, vp 3 0), (12, va [ci a1.Log, ci a1.Boards, ci a1.Chips, ci a1.Dust, ci a1.Value, ci a2.Log, ci a2.Boards, ci a2.Chips, ci a2.Dust, ci a2.Value]), (13, vi x3)], [(0, bx 41 (qL a1)), (1, bx 41 (qL a2)), (2, bx 41 (qL x14)), (3, bx 41 [ci (([a1.Log, a1.Boards, a1.Chips, a1.Dust, a1.Value, a2.Log, a2.Boards, a2.Chips, a2.Dust, a2.Value] : List Int).getD (x3.toNat * 5 + 0) 0), ci (([a1.Log, a1.Boards, a1.Chips, a1.Dust, a1.Value, a2.Log, a2.Boards, a2.Chips, a2.Dust, a2.Value] : List Int).getD (x3.toNat * 5 + 1) 0), ci (([a1.Log, a1.Boards, a1.Chips, a1.Dust, a1.Value, a2.Log, a2.Boards, a2.Chips, a2.Dust, a2.Value] : List Int).getD (x3.toNat * 5 + 2) 0), ci (([a1.Log, a1.Boards, a1.Chips, a1.Dust, a1.Value, a2.Log, a2.Boards, a2.Chips, a2.Dust, a2.Value] : List Int).getD (x3.toNat * 5 + 3) 0), ci (([a1.Log, a1.Boards, a1.Chips, a1.Dust, a1.Value, a2.Log, a2.Boards, a2.Chips, a2.Dust, a2.Value] : List Int).getD (x3.toNat * 5 + 4) 0)])]⟩
def MC (a1 : Yield) (a2 : Yield) (x3 : Int) (o15 : Yield) (x20 : Bool) : St :=
 ⟨[(2, vp 0 0), (3, vp 1 0), (4, vp 2 0), (12, va [ci a1.Log, ci a1.Boards, ci a1.Chips, ci a1.Dust, ci a1.Value, ci a2.Log, ci a2.Boards, ci a2.Chips, ci a2.Dust, ci a2.Value]), (13, vi x3), (43, vb x20)], [(0, bx 41 (qL a1)), (1, bx 41 (qL a2)), (2, bx 41 (qL o15))]⟩
def VA (a1 : Yield) (a2 : Yield) (x3 : Int) (x4 : Yield) : St :=
 ⟨[(2, vp 0 0), (3, vp 1 0), (4, vp 2 0), (12, va [ci a1.Log, ci a1.Boards, ci a1.Chips, ci a1.Dust, ci a1.Value, ci a2.Log, ci a2.Boards, ci a2.Chips, ci a2.Dust, ci a2.Value]), (13, vi x3)], [(0, bx 41 (qL a1)), (1, bx 41 (qL a2)), (2, bx 41 (qL x4))]⟩
def MD (a1 : Yield) (a2 : Yield) (x22 : Yield) : St :=
 ⟨[(2, vp 0 0), (3, vp 1 0), (4, vp 2 0)], [(0, bx 41 (qL a1)), (1, bx 41 (qL a2)), (2, bx 41 (qL x22))]⟩
theorem CC (E : Env 0) (a1 : Yield) (a2 : Yield) (x3 : Int) : ∀ (n : Nat) (x7 : Int) (x8 : Yield) (res : (Yield × Int) ⊕ Yield), qR a1 a2 x3 n x7 x8 = some res → HL (kx E 72 0) (nd Try.f18 27028) (wS 2 (fun o => ML a1 a2 x3 o) (fun v st => RetQ Try.prog Try.f18 (KC v) (KF v) .ret st) res) n (UY a1 a2 x3 x7 x8) := by
 intro n
 induction n with
 | zero =>
  intro x7 x8 res hm
  cases hm
 | succ n ih =>
  intro x7 x8 res hm
  refine qU ?_
  refine q_sq ?_
  refine q_vu [] 4 [] [(26, vb (decide (x7 < 4)))] [] [] ?_
  refine q_sq ?_
  refine q_cn (decide (x7 < 4)) (fun b9 => ?_) (fun b9 => ?_)
  ·replace hm := qB b9 hm
   refine q_sk ?_
   refine q_sq ?_
   refine q_bk 3 ?_
   refine q_sq ?_
   obtain ⟨g10, hm⟩ := qO hm
   refine q_vu [qd 0 (Dir.none) (inb_of g10)] 4 [26] [(9, vi (([([a1.Log, a1.Boards, a1.Chips, a1.Dust, a1.Value, a2.Log, a2.Boards, a2.Chips, a2.Dust, a2.Value] : List Int).getD (x3.toNat * 5 + 0) 0, ([a1.Log, a1.Boards, a1.Chips, a1.Dust, a1.Value, a2.Log, a2.Boards, a2.Chips, a2.Dust, a2.Value] : List Int).getD (x3.toNat * 5 + 1) 0, ([a1.Log, a1.Boards, a1.Chips, a1.Dust, a1.Value, a2.Log, a2.Boards, a2.Chips, a2.Dust, a2.Value] : List Int).getD (x3.toNat * 5 + 2) 0, ([a1.Log, a1.Boards, a1.Chips, a1.Dust, a1.Value, a2.Log, a2.Boards, a2.Chips, a2.Dust, a2.Value] : List Int).getD (x3.toNat * 5 + 3) 0] : List Int).getD x7.toNat 0))] [] [] ?_
   refine q_jn (ι := Bool) (fun p => MJ a1 a2 x3 x7 x8 p) (fun p => NX x7 x8 (qR a1 a2 x3 n) p = some res) ?_ ?_
   ·rintro x12 hm
    show H _ (MJ a1 a2 x3 x7 x8 x12) _ _
    refine q_cn x12 (fun b13 => ?_) (fun b13 => ?_)
    ·replace hm := qB b13 hm
     refine q_sq ?_
     refine q_vn [] 4 ⟨[(4, vp 2 0), (5, vi 9)], [(2, bx 41 [ci 0, ci 0, ci 0, ci 0, ci 0])]⟩ ?_
     obtain rfl := Option.some.inj hm
     refine q_rt ?_
     refine zB ((Yield.mk 0 0 0 0 0), 9) ?_
     exact q_rm
    ·replace hm := qA b13 hm
     refine q_sk ?_
     refine q_vu [] 4 [25, 33] [(25, vi (w64 (x7 + 1)))] [] [] ?_
     exact q_hl (UY a1 a2 x3 (w64 (x7 + 1)) x8) (ih (w64 (x7 + 1)) x8 _ hm)
   ·rcases Bool.eq_false_or_eq_true (decide ((([([a1.Log, a1.Boards, a1.Chips, a1.Dust, a1.Value, a2.Log, a2.Boards, a2.Chips, a2.Dust, a2.Value] : List Int).getD (x3.toNat * 5 + 0) 0, ([a1.Log, a1.Boards, a1.Chips, a1.Dust, a1.Value, a2.Log, a2.Boards, a2.Chips, a2.Dust, a2.Value] : List Int).getD (x3.toNat * 5 + 1) 0, ([a1.Log, a1.Boards, a1.Chips, a1.Dust, a1.Value, a2.Log, a2.Boards, a2.Chips, a2.Dust, a2.Value] : List Int).getD (x3.toNat * 5 + 2) 0, ([a1.Log, a1.Boards, a1.Chips, a1.Dust, a1.Value, a2.Log, a2.Boards, a2.Chips, a2.Dust, a2.Value] : List Int).getD (x3.toNat * 5 + 3) 0] : List Int).getD x7.toNat 0) < 0)) with b11 | b11
    ·replace hm := qB b11 hm
     refine q_vu [qf 2 b11] 4 [9] [(33, vb true)] [] [] ?_
     exact q_J (true) hm
    ·replace hm := qA b11 hm
     refine q_vu [qf 2 b11] 4 [9] [(33, vb (decide ((([([a1.Log, a1.Boards, a1.Chips, a1.Dust, a1.Value, a2.Log, a2.Boards, a2.Chips, a2.Dust, a2.Value] : List Int).getD (x3.toNat * 5 + 0) 0, ([a1.Log, a1.Boards, a1.Chips, a1.Dust, a1.Value, a2.Log, a2.Boards, a2.Chips, a2.Dust, a2.Value] : List Int).getD (x3.toNat * 5 + 1) 0, ([a1.Log, a1.Boards, a1.Chips, a1.Dust, a1.Value, a2.Log, a2.Boards, a2.Chips, a2.Dust, a2.Value] : List Int).getD (x3.toNat * 5 + 2) 0, ([a1.Log, a1.Boards, a1.Chips, a1.Dust, a1.Value, a2.Log, a2.Boards, a2.Chips, a2.Dust, a2.Value] : List Int).getD (x3.toNat * 5 + 3) 0] : List Int).getD x7.toNat 0) > 2305843009213693952)))] [] [] ?_
     exact q_J (decide ((([([a1.Log, a1.Boards, a1.Chips, a1.Dust, a1.Value, a2.Log, a2.Boards, a2.Chips, a2.Dust, a2.Value] : List Int).getD (x3.toNat * 5 + 0) 0, ([a1.Log, a1.Boards, a1.Chips, a1.Dust, a1.Value, a2.Log, a2.Boards, a2.Chips, a2.Dust, a2.Value] : List Int).getD (x3.toNat * 5 + 1) 0, ([a1.Log, a1.Boards, a1.Chips, a1.Dust, a1.Value, a2.Log, a2.Boards, a2.Chips, a2.Dust, a2.Value] : List Int).getD (x3.toNat * 5 + 2) 0, ([a1.Log, a1.Boards, a1.Chips, a1.Dust, a1.Value, a2.Log, a2.Boards, a2.Chips, a2.Dust, a2.Value] : List Int).getD (x3.toNat * 5 + 3) 0] : List Int).getD x7.toNat 0) > 2305843009213693952)) hm
  ·replace hm := qA b9 hm
   refine q_ex 2 ?_
   obtain rfl := Option.some.inj hm
   exact wZ x8 (by kernel_rfl) (by kernel_rfl)
theorem CE (E : Env 0) (a1 : Yield) (a2 : Yield) : ∀ (n : Nat) (x3 : Int) (x4 : Yield) (res : (Yield × Int) ⊕ Yield), zA a1 a2 n x3 x4 = some res → HL (kx E 72 0) (nd Try.f18 52) (wS 0 (fun o => MD a1 a2 o) (fun v st => RetQ Try.prog Try.f18 (KC v) (KF v) .ret st) res) n (VA a1 a2 x3 x4) := by
 intro n
 induction n with
 | zero =>
  intro x3 x4 res hm
  cases hm
 | succ n ih =>
  intro x3 x4 res hm
  refine qU ?_
  refine q_sq ?_
  refine q_vu [] 3 [] [(14, vb (decide (x3 < 2)))] [] [] ?_
  refine q_sq ?_
  refine q_cn (decide (x3 < 2)) (fun b5 => ?_) (fun b5 => ?_)
  ·replace hm := qB b5 hm
   refine q_sk ?_
   refine q_sq ?_
   refine q_bk 1 ?_
   refine q_sq ?_
   obtain ⟨g6, hm⟩ := qO hm
   refine q_vu [qd 0 (Dir.none) (inb_of g6)] 3 [14] [(7, vp 3 0)] [] [(3, bx 41 [ci (([a1.Log, a1.Boards, a1.Chips, a1.Dust, a1.Value, a2.Log, a2.Boards, a2.Chips, a2.Dust, a2.Value] : List Int).getD (x3.toNat * 5 + 0) 0), ci (([a1.Log, a1.Boards, a1.Chips, a1.Dust, a1.Value, a2.Log, a2.Boards, a2.Chips, a2.Dust, a2.Value] : List Int).getD (x3.toNat * 5 + 1) 0), ci (([a1.Log, a1.Boards, a1.Chips, a1.Dust, a1.Value, a2.Log, a2.Boards, a2.Chips, a2.Dust, a2.Value] : List Int).getD (x3.toNat * 5 + 2) 0), ci (([a1.Log, a1.Boards, a1.Chips, a1.Dust, a1.Value, a2.Log, a2.Boards, a2.Chips, a2.Dust, a2.Value] : List Int).getD (x3.toNat * 5 + 3) 0), ci (([a1.Log, a1.Boards, a1.Chips, a1.Dust, a1.Value, a2.Log, a2.Boards, a2.Chips, a2.Dust, a2.Value] : List Int).getD (x3.toNat * 5 + 4) 0)])] ?_
   refine q_sq ?_
   refine q_sq ?_
   refine q_vu [] 4 [] [(24, va [ci (([a1.Log, a1.Boards, a1.Chips, a1.Dust, a1.Value, a2.Log, a2.Boards, a2.Chips, a2.Dust, a2.Value] : List Int).getD (x3.toNat * 5 + 0) 0), ci (([a1.Log, a1.Boards, a1.Chips, a1.Dust, a1.Value, a2.Log, a2.Boards, a2.Chips, a2.Dust, a2.Value] : List Int).getD (x3.toNat * 5 + 1) 0), ci (([a1.Log, a1.Boards, a1.Chips, a1.Dust, a1.Value, a2.Log, a2.Boards, a2.Chips, a2.Dust, a2.Value] : List Int).getD (x3.toNat * 5 + 2) 0), ci (([a1.Log, a1.Boards, a1.Chips, a1.Dust, a1.Value, a2.Log, a2.Boards, a2.Chips, a2.Dust, a2.Value] : List Int).getD (x3.toNat * 5 + 3) 0)]), (25, vi 0)] [] [] ?_
   obtain ⟨u17, h16, hm⟩ := qC hm
   refine zH (nd Try.f18 27028) 2 (by kernel_rfl) FUEL (fun o => ML a1 a2 x3 o) (fun v st => RetQ Try.prog Try.f18 (KC v) (KF v) .ret st) u17 (q_hl (UY a1 a2 x3 0 x4) (CC E a1 a2 x3 FUEL 0 x4 u17 h16)) ?_ ?_
   ·rintro v18 rfl st hr
    obtain rfl := Option.some.inj hm
    exact zB v18 hr
   ·rintro o15 rfl
    replace hm : _ = some res := hm
    refine q_jn (ι := Bool) (fun p => MC a1 a2 x3 o15 p) (fun p => yE x3 (zA a1 a2 n) o15 p = some res) ?_ ?_
    ·rintro x20 hm
     show H _ (MC a1 a2 x3 o15 x20) _ _
     refine q_cn x20 (fun b21 => ?_) (fun b21 => ?_)
     ·replace hm := qB b21 hm
      refine q_sq ?_
      refine q_vn [] 4 ⟨[(4, vp 2 0), (5, vi 9)], [(2, bx 41 [ci 0, ci 0, ci 0, ci 0, ci 0])]⟩ ?_
      obtain rfl := Option.some.inj hm
      refine q_rt ?_
      refine zB ((Yield.mk 0 0 0 0 0), 9) ?_
      exact q_rm
     ·replace hm := qA b21 hm
      refine q_sk ?_
      refine q_vu [] 4 [13, 43] [(13, vi (w64 (x3 + 1)))] [] [] ?_
      exact q_hl (VA a1 a2 (w64 (x3 + 1)) o15) (ih (w64 (x3 + 1)) o15 _ hm)
    ·rcases Bool.eq_false_or_eq_true (decide ((([a1.Log, a1.Boards, a1.Chips, a1.Dust, a1.Value, a2.Log, a2.Boards, a2.Chips, a2.Dust, a2.Value] : List Int).getD (x3.toNat * 5 + 4) 0) < (-2305843009213693952))) with b19 | b19
     ·replace hm := qB b19 hm
      refine q_vu [qf 3 b19] 4 [7] [(43, vb true)] [3] [] ?_
      exact q_J (true) hm
     ·replace hm := qA b19 hm
      refine q_vu [qf 3 b19] 4 [7] [(43, vb (decide ((([a1.Log, a1.Boards, a1.Chips, a1.Dust, a1.Value, a2.Log, a2.Boards, a2.Chips, a2.Dust, a2.Value] : List Int).getD (x3.toNat * 5 + 4) 0) > 2305843009213693952)))] [3] [] ?_
      exact q_J (decide ((([a1.Log, a1.Boards, a1.Chips, a1.Dust, a1.Value, a2.Log, a2.Boards, a2.Chips, a2.Dust, a2.Value] : List Int).getD (x3.toNat * 5 + 4) 0) > 2305843009213693952)) hm
  ·replace hm := qA b5 hm
   refine q_ex 0 ?_
   obtain rfl := Option.some.inj hm
   exact wZ x4 (by kernel_rfl) (by kernel_rfl)
theorem EB (a1 : Yield) (a2 : Yield) (r : Yield × Int) (hm : PT a1 a2 = some r) : CtX Try.prog globs 18 0 0 [.agg (qL a1), .agg (qL a2)] [] (KC r) (KF r) := by
 unfold PT at hm
 refine q_E Try.f18 72 fun E => ?_
 refine q_sq ?_
 refine q_vn [] 0 ⟨[(2, vp 0 0), (3, vp 1 0), (4, vp 2 0)], [(0, bx 41 (qL a1)), (1, bx 41 (qL a2)), (2, bx 41 [ci 0, ci 0, ci 0, ci 0, ci 0])]⟩ ?_
 refine q_sq ?_
 refine q_sq ?_
 refine q_vu [] 3 [] [(12, va [ci a1.Log, ci a1.Boards, ci a1.Chips, ci a1.Dust, ci a1.Value, ci a2.Log, ci a2.Boards, ci a2.Chips, ci a2.Dust, ci a2.Value]), (13, vi 0)] [] [] ?_
 obtain ⟨u25, h24, hm⟩ := qC hm
 refine zH (nd Try.f18 52) 0 (by kernel_rfl) FUEL (fun o => MD a1 a2 o) (fun v st => RetQ Try.prog Try.f18 (KC v) (KF v) .ret st) u25 (q_hl (VA a1 a2 0 (Yield.mk 0 0 0 0 0)) (CE E a1 a2 FUEL 0 (Yield.mk 0 0 0 0 0) u25 h24)) ?_ ?_
 ·rintro v26 rfl st hr
  obtain rfl := Option.some.inj hm
  exact hr
 ·rintro o23 rfl
  replace hm : _ = some r := hm
  refine q_sq ?_
  refine q_vn [] 3 ⟨[(4, vp 2 0), (5, vi 0)], [(2, bx 41 [ci (w64 (a1.Log + a2.Log)), ci (w64 (a1.Boards + a2.Boards)), ci (w64 (a1.Chips + a2.Chips)), ci (w64 (a1.Dust + a2.Dust)), ci (w64 (a1.Value + a2.Value))])]⟩ ?_
  obtain rfl := Option.some.inj hm
  refine q_rt ?_
  exact q_rm
def qDb (r : Box) : V := va (wM r)
def qC2 (r : Box) : List (Nat × (Nat × O)) := []
theorem RE (a1 : Rect) (a2 : Span) (r : Box) (hm : PU a1 a2 = some r) : CtX Try.prog globs 39 0 0 [.agg (qJ a1), .agg (e_Span a2)] [] (qDb r) (qC2 r) := by
 unfold PU at hm
 refine q_E Try.f39 11 fun E => ?_
 refine q_sq ?_
 refine q_vn [] 0 ⟨[(2, vp 0 0), (3, vp 1 0), (4, vp 2 0)], [(0, bx 28 (qJ a1)), (1, bx 26 (e_Span a2)), (2, bx 52 [ci 0, ci 0, ci 0, ci 0, ci 0, ci 0])]⟩ ?_
 refine q_sq ?_
 refine q_vn [] 3 ⟨[(4, vp 2 0)], [(2, bx 52 [ci a1.X.A, ci a1.X.B, ci a1.Y.A, ci a1.Y.B, ci a2.A, ci a2.B])]⟩ ?_
 obtain rfl := Option.some.inj hm
 refine q_rt ?_
 exact q_rm
set_option maxRecDepth 100000
def qC1 (r : Span) : V := va (e_Span r)
def qCY (r : Span) : List (Nat × (Nat × O)) := []
theorem QO (a1 : Span) (a2 : Span) (r : Span) (hm : ZE a1 a2 = some r) : CtX Try.prog globs 31 0 0 [.agg (e_Span a1), .agg (e_Span a2)] [] (qC1 r) (qCY r) := by
 unfold ZE at hm
 refine q_E Try.f31 24 fun E => ?_
 refine q_sq ?_
 refine q_vn [] 0 ⟨[(2, vp 0 0), (3, vp 1 0), (4, vp 2 0)], [(0, bx 26 (e_Span a1)), (1, bx 26 (e_Span a2)), (2, bx 26 [ci 0, ci 0])]⟩ ?_
 refine q_sq ?_
 refine q_vu [] 3 [2, 3] [(5, vp 3 0)] [0, 1] [(3, bx 26 [ci (imax a1.A a2.A), ci (imin a1.B a2.B)])] ?_
 refine q_sq ?_
 refine q_sq ?_
 refine q_vu [] 4 [] [(21, vb (decide ((imax a1.A a2.A) ≥ (imin a1.B a2.B))))] [] [] ?_
 refine q_cn (decide ((imax a1.A a2.A) ≥ (imin a1.B a2.B))) (fun b3 => ?_) (fun b3 => ?_)
 ·replace hm := qB b3 hm
  refine q_sq ?_
  refine q_vu [] 4 [5, 21] [] [3] [] ?_
  obtain rfl := Option.some.inj hm
  refine q_rt ?_
  exact q_rm
 ·replace hm := qA b3 hm
  refine q_sk ?_
  refine q_sq ?_
  refine q_vn [] 4 ⟨[(4, vp 2 0)], [(2, bx 26 [ci (imax a1.A a2.A), ci (imin a1.B a2.B)])]⟩ ?_
  obtain rfl := Option.some.inj hm
  refine q_rt ?_
  exact q_rm
open Go.Proofs
set_option maxHeartbeats 4000000
set_option maxRecDepth 100000
def qDc (r : Int) : V := vc (.val (.int .u64 r))
def qC6 (r : Int) : List (Nat × (Nat × O)) := []
theorem qCu (a1 : Span) (r : Int) (hm : AB a1 = some r) : CtX Try.prog globs 49 0 0 [.agg (e_Span a1)] [] (qDc r) (qC6 r) := by
 unfold AB at hm
 refine q_E Try.f49 15 fun E => ?_
 refine q_sq ?_
 refine q_vn [] 0 ⟨[(1, vp 0 0)], [(0, bx 26 (e_Span a1))]⟩ ?_
 refine q_sq ?_
 refine q_sq ?_
 refine q_vu [] 1 [] [(7, vb (decide (a1.A ≥ a1.B)))] [] [] ?_
 refine q_cn (decide (a1.A ≥ a1.B)) (fun b2 => ?_) (fun b2 => ?_)
 ·replace hm := qB b2 hm
  refine q_sq ?_
  refine q_vn [] 1 ⟨[(2, vc (.val (.int .u64 0)))], []⟩ ?_
  obtain rfl := Option.some.inj hm
  refine q_rt ?_
  exact q_rm
 ·replace hm := qA b2 hm
  refine q_sk ?_
  refine q_sq ?_
  refine q_vn [] 1 ⟨[(2, vc (.val (.int .u64 (IntKind.u64.wrap ((IntKind.u64.wrap (a1.B)) - (IntKind.u64.wrap (a1.A)))))))], []⟩ ?_
  obtain rfl := Option.some.inj hm
  refine q_rt ?_
  exact q_rm
def qAM (r : Int) : V := vi r
def qBg (r : Int) : List (Nat × (Nat × O)) := []
theorem CP (a1 : Int) (r : Int) (hm : NN a1 = some r) : CtX Try.prog globs 48 0 0 [.one (.val (.int .u64 a1))] [] (qAM r) (qBg r) := by
 unfold NN at hm
 refine q_E Try.f48 6 fun E => ?_
 refine q_sq ?_
 refine q_vn [] 0 ⟨[(0, vc (.val (.int .u64 a1)))], []⟩ ?_
 refine q_sq ?_
 refine q_vn [] 0 ⟨[(2, vi (w64 (imin a1 9223372036854775807)))], []⟩ ?_
 obtain rfl := Option.some.inj hm
 refine q_rt ?_
 exact q_rm
set_option maxRecDepth 100000
def qDS (r : Int) : V := vi r
def qDF (r : Int) : List (Nat × (Nat × O)) := []
theorem WH (a1 : Span) (r : Int) (hm : YI a1 = some r) : CtX Try.prog globs 30 0 0 [.agg (e_Span a1)] [] (qDS r) (qDF r) := by
 unfold YI at hm
 refine q_E Try.f30 6 fun E => ?_
 refine q_sq ?_
 refine q_vn [] 0 ⟨[(1, vp 0 0)], [(0, bx 26 (e_Span a1))]⟩ ?_
 refine q_sq ?_
 obtain ⟨v2, h3, hm⟩ := qC hm
 obtain ⟨v4, h5, hm⟩ := qC hm
 refine q_vn [qc 1 [3] 1 (qCu a1 v2 h3), qc 2 [4] 1 (CP v2 v4 h5)] 1 ⟨[(2, vi v4)], []⟩ ?_
 obtain rfl := Option.some.inj hm
 refine q_rt ?_
 exact q_rm
open Go.Proofs
set_option maxHeartbeats 4000000
set_option maxRecDepth 100000
def AR (r : Span) : V := va (e_Span r)
def IA (r : Span) : List (Nat × (Nat × O)) := []
theorem ES (a1 : Int) (a2 : Int) (r : Span) (hm : RM a1 a2 = some r) : CtX Try.prog globs 50 0 0 [.one (ci a1), .one (ci a2)] [] (AR r) (IA r) := by
 unfold RM at hm
 refine q_E Try.f50 10 fun E => ?_
 refine q_sq ?_
 refine q_vn [] 0 ⟨[(0, vi a1), (1, vi a2), (4, vp 0 0)], [(0, bx 26 [ci 0, ci 0])]⟩ ?_
 refine q_sq ?_
 refine q_vu [] 1 [0, 1] [] [0] [(0, bx 26 [ci (w64 (10 * a1)), ci (w64 (10 * a2))])] ?_
 obtain rfl := Option.some.inj hm
 refine q_rt ?_
 exact q_rm
def IE (r : Bool) : V := vb r
def AM (r : Bool) : List (Nat × (Nat × O)) := []
def UA (x3 : Bool) : St :=
 ⟨[(2, vb x3)], []⟩
theorem ER (a1 : Span) (r : Bool) (hm : RQ a1 = some r) : CtX Try.prog globs 85 0 0 [.agg (e_Span a1)] [] (IE r) (AM r) := by
 unfold RQ at hm
 refine q_E Try.f85 17 fun E => ?_
 refine q_sq ?_
 refine q_vn [] 0 ⟨[(1, vp 0 0)], [(0, bx 26 (e_Span a1))]⟩ ?_
 refine q_jn (ι := Bool) (fun p => UA p) (fun p => YO p = some r) ?_ ?_
 ·rintro x3 hm
  show H _ (UA x3) _ _
  obtain rfl := Option.some.inj hm
  refine q_rt ?_
  exact q_rm
 ·rcases Bool.eq_false_or_eq_true (decide ((imin a1.A a1.B) ≥ (-600))) with b2 | b2
  ·replace hm := qB b2 hm
   refine q_vn [qf 6 b2] 1 ⟨[(2, vb (decide ((imax a1.A a1.B) ≤ 600)))], []⟩ ?_
   exact q_J (decide ((imax a1.A a1.B) ≤ 600)) hm
  ·replace hm := qA b2 hm
   refine q_vn [qf 6 b2] 1 ⟨[(2, vb false)], []⟩ ?_
   exact q_J (false) hm
set_option maxRecDepth 100000
def IB (r : Bool) : V := vb r
def IG (r : Bool) : List (Nat × (Nat × O)) := []
theorem jC (a1 : Span) (r : Bool) (hm : yU a1 = some r) : CtX Try.prog globs 86 0 0 [.agg (e_Span a1)] [] (IB r) (IG r) := by
 unfold yU at hm
 refine q_E Try.f86 8 fun E => ?_
 refine q_sq ?_
 refine q_vn [] 0 ⟨[(1, vp 0 0)], [(0, bx 26 (e_Span a1))]⟩ ?_
 refine q_sq ?_
 refine q_vn [] 1 ⟨[(2, vb (decide (a1.A ≥ a1.B)))], []⟩ ?_
 obtain rfl := Option.some.inj hm
 refine q_rt ?_
 exact q_rm
open Go.Proofs
set_option maxHeartbeats 4000000
set_option maxRecDepth 100000
def yQ (r : Int) : V := vi r
def yR (r : Int) : List (Nat × (Nat × O)) := []
def JW (a1 : qS) (x6 : Int) : St :=
 ⟨[(1, vp 0 0), (3, vi ((a1.Rows.length : Nat) : Int)), (24, vc (tl e_Span default a1.Rows)), (25, vi ((a1.Rows.length : Nat) : Int)), (26, vi x6)], [(0, bx 66 (zI a1))]⟩
def VU (a1 : qS) : St :=
 ⟨[(1, vp 0 0), (3, vi ((a1.Rows.length : Nat) : Int))], [(0, bx 66 (zI a1))]⟩
def VV (a1 : qS) (x27 : Int) (x33 : Bool) : St :=
 ⟨[(54, vc (tl e_Span default a1.Rows)), (55, vi ((a1.Rows.length : Nat) : Int)), (56, vi x27), (66, vb x33)], []⟩
def YD (a1 : qS) (x27 : Int) : St :=
 ⟨[(54, vc (tl e_Span default a1.Rows)), (55, vi ((a1.Rows.length : Nat) : Int)), (56, vi x27)], []⟩
def GG : St :=
 ⟨[], []⟩
def GK (a1 : qS) (x25 : Bool) : St :=
 ⟨[(1, vp 0 0), (52, vb x25)], [(0, bx 66 (zI a1))]⟩
def GC (a1 : qS) (x4 : Bool) : St :=
 ⟨[(1, vp 0 0), (3, vi ((a1.Rows.length : Nat) : Int)), (22, vb x4)], [(0, bx 66 (zI a1))]⟩
theorem SG (E : Env 0) (a1 : qS) : ∀ (n : Nat) (x6 : Int) (res : Int ⊕ Unit), PH a1 n x6 = some res → HL (kx E 68 0) (nd Try.f65 500) (wS 0 (fun o => VU a1) (fun v st => RetQ Try.prog Try.f65 (yQ v) (yR v) .ret st) res) n (JW a1 x6) := by
 intro n
 induction n with
 | zero =>
  intro x6 res hm
  cases hm
 | succ n ih =>
  intro x6 res hm
  refine qU ?_
  refine q_sq ?_
  refine q_vu [] 1 [] [(27, vb (decide (x6 < ((a1.Rows.length : Nat) : Int))))] [] [] ?_
  refine q_sq ?_
  refine q_cn (decide (x6 < ((a1.Rows.length : Nat) : Int))) (fun b7 => ?_) (fun b7 => ?_)
  ·replace hm := qB b7 hm
   refine q_sk ?_
   refine q_sq ?_
   refine q_bk 1 ?_
   refine q_sq ?_
   obtain ⟨g8, hm⟩ := qO hm
   refine q_vu [qd 0 (Dir.none) (inb_of g8)] 1 [27] [(5, vp 1 0)] [] [(1, bx 26 [ci ((a1.Rows.getD x6.toNat default).A), ci ((a1.Rows.getD x6.toNat default).B)])] ?_
   refine q_sq ?_
   obtain ⟨v9, h10, hm⟩ := qC hm
   refine q_vu [qc 1 [30] 2 (ER (a1.Rows.getD x6.toNat default) v9 h10)] 2 [5] [(32, vb (!v9))] [1] [] ?_
   refine q_cn (!v9) (fun b11 => ?_) (fun b11 => ?_)
   ·replace hm := qB b11 hm
    refine q_sq ?_
    refine q_vn [] 2 ⟨[(2, vi 9)], []⟩ ?_
    obtain rfl := Option.some.inj hm
    refine q_rt ?_
    refine zB 9 ?_
    exact q_rm
   ·replace hm := qA b11 hm
    refine q_sk ?_
    refine q_vu [] 2 [26, 32] [(26, vi (w64 (x6 + 1)))] [] [] ?_
    exact q_hl (JW a1 (w64 (x6 + 1))) (ih (w64 (x6 + 1)) _ hm)
  ·replace hm := qA b7 hm
   refine q_ex 0 ?_
   obtain rfl := Option.some.inj hm
   exact wZ () (by kernel_rfl) (by kernel_rfl)
theorem SB (E : Env 0) (a1 : qS) : ∀ (n : Nat) (x27 : Int) (res : Int ⊕ Unit), yA a1 n x27 = some res → HL (kx E 68 0) (nd Try.f65 4084) (wS 2 (fun o => GG) (fun v st => RetQ Try.prog Try.f65 (yQ v) (yR v) .ret st) res) n (YD a1 x27) := by
 intro n
 induction n with
 | zero =>
  intro x27 res hm
  cases hm
 | succ n ih =>
  intro x27 res hm
  refine qU ?_
  refine q_sq ?_
  refine q_vu [] 1 [] [(57, vb (decide (x27 < ((a1.Rows.length : Nat) : Int))))] [] [] ?_
  refine q_sq ?_
  refine q_cn (decide (x27 < ((a1.Rows.length : Nat) : Int))) (fun b28 => ?_) (fun b28 => ?_)
  ·replace hm := qB b28 hm
   refine q_sk ?_
   refine q_sq ?_
   refine q_bk 3 ?_
   refine q_sq ?_
   obtain ⟨g29, hm⟩ := qO hm
   refine q_vu [qd 0 (Dir.none) (inb_of g29)] 1 [57] [(7, vp 1 0)] [] [(1, bx 26 [ci ((a1.Rows.getD x27.toNat default).A), ci ((a1.Rows.getD x27.toNat default).B)])] ?_
   refine q_jn (ι := Bool) (fun p => VV a1 x27 p) (fun p => PC x27 (yA a1 n) p = some res) ?_ ?_
   ·rintro x33 hm
    show H _ (VV a1 x27 x33) _ _
    refine q_cn x33 (fun b34 => ?_) (fun b34 => ?_)
    ·replace hm := qB b34 hm
     refine q_sq ?_
     refine q_vn [] 2 ⟨[(2, vi 19)], []⟩ ?_
     obtain rfl := Option.some.inj hm
     refine q_rt ?_
     refine zB 19 ?_
     exact q_rm
    ·replace hm := qA b34 hm
     refine q_sk ?_
     refine q_vu [] 2 [56, 66] [(56, vi (w64 (x27 + 1)))] [] [] ?_
     exact q_hl (YD a1 (w64 (x27 + 1))) (ih (w64 (x27 + 1)) _ hm)
   ·obtain ⟨v30, h31, hm⟩ := qC hm
    rcases Bool.eq_false_or_eq_true v30 with b32 | b32
    ·replace hm := qB b32 hm
     refine q_vu [qc 1 [60] 2 (jC (a1.Rows.getD x27.toNat default) v30 h31), qf 2 b32] 2 [7] [(66, vb (!((((a1.Rows.getD x27.toNat default).A) == 0) && ((((a1.Rows.getD x27.toNat default).B) == 0) && true))))] [1] [] ?_
     exact q_J (!((((a1.Rows.getD x27.toNat default).A) == 0) && ((((a1.Rows.getD x27.toNat default).B) == 0) && true))) hm
    ·replace hm := qA b32 hm
     refine q_vu [qc 1 [60] 2 (jC (a1.Rows.getD x27.toNat default) v30 h31), qf 2 b32] 2 [7] [(66, vb false)] [1] [] ?_
     exact q_J (false) hm
  ·replace hm := qA b28 hm
   refine q_ex 2 ?_
   obtain rfl := Option.some.inj hm
   exact wZ () (by kernel_rfl) (by kernel_rfl)
theorem NB (a1 : qS) (r : Int) (hm : KJ a1 = some r) : CtX Try.prog globs 65 0 0 [.agg (zI a1)] [] (yQ r) (yR r) := by
 unfold KJ at hm
 refine q_E Try.f65 68 fun E => ?_
 refine q_sq ?_
 refine q_vn [] 0 ⟨[(1, vp 0 0)], [(0, bx 66 (zI a1))]⟩ ?_
 refine q_sq ?_
 refine q_vu [] 1 [] [(3, vi ((a1.Rows.length : Nat) : Int))] [] [] ?_
 refine q_sq ?_
 refine q_sq ?_
 refine q_vu [] 1 [] [(12, vb (decide (((a1.Rows.length : Nat) : Int) > 120)))] [] [] ?_
 refine q_cn (decide (((a1.Rows.length : Nat) : Int) > 120)) (fun b2 => ?_) (fun b2 => ?_)
 ·replace hm := qB b2 hm
  refine q_sq ?_
  refine q_vn [] 1 ⟨[(2, vi 4)], []⟩ ?_
  obtain rfl := Option.some.inj hm
  refine q_rt ?_
  exact q_rm
 ·replace hm := qA b2 hm
  refine q_sk ?_
  refine q_sq ?_
  refine q_jn (ι := Bool) (fun p => GC a1 p) (fun p => PK a1 p = some r) ?_ ?_
  ·rintro x4 hm
   show H _ (GC a1 x4) _ _
   refine q_cn x4 (fun b5 => ?_) (fun b5 => ?_)
   ·replace hm := qB b5 hm
    refine q_sq ?_
    refine q_vn [] 1 ⟨[(2, vi 9)], []⟩ ?_
    obtain rfl := Option.some.inj hm
    refine q_rt ?_
    exact q_rm
   ·replace hm := qA b5 hm
    refine q_sk ?_
    refine q_sq ?_
    refine q_sq ?_
    refine q_vu [] 1 [22] [(24, vc (tl e_Span default a1.Rows)), (25, vi ((a1.Rows.length : Nat) : Int)), (26, vi 0)] [] [] ?_
    obtain ⟨u14, h13, hm⟩ := qC hm
    refine zH (nd Try.f65 500) 0 (by kernel_rfl) FUEL (fun o => VU a1) (fun v st => RetQ Try.prog Try.f65 (yQ v) (yR v) .ret st) u14 (q_hl (JW a1 0) (SG E a1 FUEL 0 u14 h13)) ?_ ?_
    ·rintro v15 rfl st hr
     obtain rfl := Option.some.inj hm
     exact hr
    ·rintro o12 rfl
     replace hm : _ = some r := hm
     refine q_sq ?_
     refine q_sq ?_
     refine q_vu [] 1 [] [(35, vb (((a1.Rows.length : Nat) : Int) == 0))] [] [] ?_
     refine q_cn (((a1.Rows.length : Nat) : Int) == 0) (fun b16 => ?_) (fun b16 => ?_)
     ·replace hm := qB b16 hm
      refine q_sq ?_
      refine q_sq ?_
      refine q_vn [] 1 ⟨[(38, vb (a1.Low != 0))], []⟩ ?_
      refine q_cn (a1.Low != 0) (fun b17 => ?_) (fun b17 => ?_)
      ·replace hm := qB b17 hm
       refine q_sq ?_
       refine q_vn [] 1 ⟨[(2, vi 19)], []⟩ ?_
       obtain rfl := Option.some.inj hm
       refine q_rt ?_
       exact q_rm
      ·replace hm := qA b17 hm
       refine q_sk ?_
       refine q_sq ?_
       refine q_vn [] 1 ⟨[(2, vi 0)], []⟩ ?_
       obtain rfl := Option.some.inj hm
       refine q_rt ?_
       exact q_rm
     ·replace hm := qA b16 hm
      refine q_sk ?_
      refine q_sq ?_
      refine q_jn (ι := Bool) (fun p => GK a1 p) (fun p => KS a1 p = some r) ?_ ?_
      ·rintro x25 hm
       show H _ (GK a1 x25) _ _
       refine q_cn x25 (fun b26 => ?_) (fun b26 => ?_)
       ·replace hm := qB b26 hm
        refine q_sq ?_
        refine q_vn [] 1 ⟨[(2, vi 19)], []⟩ ?_
        obtain rfl := Option.some.inj hm
        refine q_rt ?_
        exact q_rm
       ·replace hm := qA b26 hm
        refine q_sk ?_
        refine q_sq ?_
        refine q_sq ?_
        refine q_vn [] 1 ⟨[(54, vc (tl e_Span default a1.Rows)), (55, vi ((a1.Rows.length : Nat) : Int)), (56, vi 0)], []⟩ ?_
        obtain ⟨u37, h36, hm⟩ := qC hm
        refine zH (nd Try.f65 4084) 2 (by kernel_rfl) FUEL (fun o => GG) (fun v st => RetQ Try.prog Try.f65 (yQ v) (yR v) .ret st) u37 (q_hl (YD a1 0) (SB E a1 FUEL 0 u37 h36)) ?_ ?_
        ·rintro v38 rfl st hr
         obtain rfl := Option.some.inj hm
         exact hr
        ·rintro o35 rfl
         replace hm : _ = some r := hm
         refine q_sq ?_
         refine q_vn [] 1 ⟨[(2, vi 0)], []⟩ ?_
         obtain rfl := Option.some.inj hm
         refine q_rt ?_
         exact q_rm
      ·obtain ⟨g18, hm⟩ := qO hm
       obtain ⟨v19, h20, hm⟩ := qC hm
       rcases Bool.eq_false_or_eq_true v19 with b21 | b21
       ·replace hm := qB b21 hm
        refine q_vu [qd 2 (Dir.none) (inb_of g18), qc 4 [42] 1 (jC (a1.Rows.getD (0 : Int).toNat default) v19 h20), qf 5 b21] 1 [3, 35] [(52, vb true)] [] [] ?_
        exact q_J (true) hm
       ·replace hm := qA b21 hm
        obtain ⟨g22, hm⟩ := qO hm
        obtain ⟨v23, h24, hm⟩ := qC hm
        refine q_vu [qd 2 (Dir.none) (inb_of g18), qc 4 [42] 1 (jC (a1.Rows.getD (0 : Int).toNat default) v19 h20), qf 5 b21, qd 10 (Dir.none) (inb_of g22), qk 12 [44, 50] 1 ⟨[(44, vb false), (50, va [ci ((a1.Rows.getD (w64 (((a1.Rows.length : Nat) : Int) - 1)).toNat default).A), ci ((a1.Rows.getD (w64 (((a1.Rows.length : Nat) : Int) - 1)).toNat default).B)])], []⟩ (jC (a1.Rows.getD (w64 (((a1.Rows.length : Nat) : Int) - 1)).toNat default) v23 h24)] 1 [3, 35] [(52, vb v23)] [] [] ?_
        exact q_J (v23) hm
  ·rcases Bool.eq_false_or_eq_true (decide (a1.Low < (-60))) with b3 | b3
   ·replace hm := qB b3 hm
    refine q_vu [qf 3 b3] 1 [12] [(22, vb true)] [] [] ?_
    exact q_J (true) hm
   ·replace hm := qA b3 hm
    refine q_vu [qf 3 b3] 1 [12] [(22, vb (decide (a1.Low > (w64 (60 - ((a1.Rows.length : Nat) : Int))))))] [] [] ?_
    exact q_J (decide (a1.Low > (w64 (60 - ((a1.Rows.length : Nat) : Int))))) hm
def qAg (r : qS) : V := va (zI r)
def qAc (r : qS) : List (Nat × (Nat × O)) := []
theorem NH (a1 : qS) (r : qS) (hm : KO a1 = some r) : CtX Try.prog globs 44 0 0 [.agg (zI a1)] [] (qAg r) (qAc r) := by
 unfold KO at hm
 refine q_E Try.f44 8 fun E => ?_
 refine q_sq ?_
 refine q_vn [] 0 ⟨[(1, vp 0 0), (2, vp 1 0)], [(0, bx 66 (zI a1)), (1, bx 66 [ci 0, .emp])]⟩ ?_
 refine q_sq ?_
 refine q_sq ?_
 obtain ⟨v2, h3, hm⟩ := qC hm
 refine q_vu [qc 1 [3] 2 (NB a1 v2 h3)] 2 [] [(5, vb (v2 != 0))] [] [] ?_
 refine q_cn (v2 != 0) (fun b4 => ?_) (fun b4 => ?_)
 ·replace hm := qB b4 hm
  refine q_sq ?_
  refine q_vu [] 2 [1, 5] [] [0] [] ?_
  refine q_fn [.ownB 1 1 2 26 2 (rf e_Span ([] : List Span))] ⟨[(2, vp 1 0)], [(1, bx 66 [ci 0, .own 2 0 2 0]), (2, ro 0 26 2 0 (rf e_Span ([] : List Span)))]⟩ o0 ?_
  refine q_fn [.len 2 (([] : List Span).length), .frz 2] ⟨[(2, vp 1 0)], [(1, bx 66 [ci 0, tl e_Span default ([] : List Span)])]⟩ (o1 (And.intro (And.intro (show 0 = ([] : List Span).length from rfl) (show 0 = ([] : List Span).length from rfl)) (Nat.le_refl (([] : List Span).length)))) ?_
  obtain rfl := Option.some.inj hm
  refine q_rt ?_
  exact q_rm
 ·replace hm := qA b4 hm
  refine q_sk ?_
  refine q_sq ?_
  refine q_vn [] 2 ⟨[(2, vp 1 0)], [(1, bx 66 (zI a1))]⟩ ?_
  obtain rfl := Option.some.inj hm
  refine q_rt ?_
  exact q_rm
set_option maxRecDepth 100000
def OR (r : Int) : V := vi r
def OT (r : Int) : List (Nat × (Nat × O)) := []
def WT (a2 : Rect) (v3 : qS) (x5 : Int) (x6 : Int) : St :=
 ⟨[(2, vp 0 0), (3, vp 1 0), (5, vi x5), (12, vc (tl e_Span default v3.Rows)), (13, vi ((v3.Rows.length : Nat) : Int)), (14, vi x6)], [(0, bx 66 (zI v3)), (1, bx 28 (qJ a2))]⟩
def UK (x19 : Int) : St :=
 ⟨[(5, vi x19)], []⟩
theorem HM (E : Env 0) (a2 : Rect) (v3 : qS) : ∀ (n : Nat) (x5 : Int) (x6 : Int) (res : Int), XI a2 v3 n x5 x6 = some res → HL (kx E 44 0) (nd Try.f32 244) (wU 0 (fun o => UK o) res) n (WT a2 v3 x5 x6) := by
 intro n
 induction n with
 | zero =>
  intro x5 x6 res hm
  cases hm
 | succ n ih =>
  intro x5 x6 res hm
  refine qU ?_
  refine q_sq ?_
  refine q_vu [] 2 [] [(15, vb (decide (x6 < ((v3.Rows.length : Nat) : Int))))] [] [] ?_
  refine q_sq ?_
  refine q_cn (decide (x6 < ((v3.Rows.length : Nat) : Int))) (fun b7 => ?_) (fun b7 => ?_)
  ·replace hm := qB b7 hm
   refine q_sk ?_
   refine q_sq ?_
   refine q_bk 1 ?_
   refine q_sq ?_
   obtain ⟨g8, hm⟩ := qO hm
   refine q_vu [qd 1 (Dir.none) (inb_of g8)] 2 [15] [(6, vi x6), (7, vp 2 0)] [] [(2, bx 26 [ci ((v3.Rows.getD x6.toNat default).A), ci ((v3.Rows.getD x6.toNat default).B)])] ?_
   refine q_sq ?_
   obtain ⟨v9, h10, hm⟩ := qC hm
   refine q_vu [qc 9 [22, 27] 3 (ES (w64 (v3.Low + x6)) (w64 ((w64 (v3.Low + x6)) + 1)) v9 h10)] 3 [6] [(8, vp 3 0)] [] [(3, bx 26 (e_Span v9))] ?_
   obtain ⟨v11, h12, hm⟩ := qC hm
   obtain ⟨v13, h14, hm⟩ := qC hm
   obtain ⟨v15, h16, hm⟩ := qC hm
   obtain ⟨v17, h18, hm⟩ := qC hm
   refine q_du [qc 4 [30, 32] 4 (QO (v3.Rows.getD x6.toNat default) a2.X v11 h12), qc 5 [33] 4 (WH v11 v13 h14), qc 9 [35, 37] 4 (QO v9 a2.Y v15 h16), qc 10 [38] 4 (WH v15 v17 h18)] [0, 0, 0, 4, 14, 30, 0, 0, 128, 510, 1022, 2046, 4095, 8191] 4 [5, 7, 8] [(5, vi (w64 (x5 + (w64 (v13 * v17)))))] [2, 3] [] ?_
   refine q_vu [] 4 [14] [(14, vi (w64 (x6 + 1)))] [] [] ?_
   exact q_hl (WT a2 v3 (w64 (x5 + (w64 (v13 * v17)))) (w64 (x6 + 1))) (ih (w64 (x5 + (w64 (v13 * v17)))) (w64 (x6 + 1)) _ hm)
  ·replace hm := qA b7 hm
   refine q_ex 0 ?_
   obtain rfl := Option.some.inj hm
   exact yH (by kernel_rfl) (by kernel_rfl)
theorem DX (a1 : qS) (a2 : Rect) (r : Int) (hm : XG a1 a2 = some r) : CtX Try.prog globs 32 0 0 [.agg (zI a1), .agg (qJ a2)] [] (OR r) (OT r) := by
 unfold XG at hm
 refine q_E Try.f32 44 fun E => ?_
 refine q_sq ?_
 refine q_vn [] 0 ⟨[(2, vp 0 0), (3, vp 1 0)], [(0, bx 66 (zI a1)), (1, bx 28 (qJ a2))]⟩ ?_
 refine q_sq ?_
 obtain ⟨v3, h4, hm⟩ := qC hm
 refine q_vu [qc 1 [9] 2 (NH a1 v3 h4)] 2 [] [] [0] [(0, bx 66 (zI v3))] ?_
 refine q_sq ?_
 refine q_vu [] 2 [] [(5, vi 0)] [] [] ?_
 refine q_sq ?_
 refine q_sq ?_
 refine q_vu [] 2 [] [(12, vc (tl e_Span default v3.Rows)), (13, vi ((v3.Rows.length : Nat) : Int)), (14, vi 0)] [] [] ?_
 obtain ⟨o20, h21, hm⟩ := qC hm
 refine wO (nd Try.f32 244) 0 (by kernel_rfl) FUEL (fun o => UK o) o20 (q_hl (WT a2 v3 0 0) (HM E a2 v3 FUEL 0 0 o20 h21)) ?_
 refine q_sq ?_
 refine q_vn [] 2 ⟨[(4, vi o20)], []⟩ ?_
 obtain rfl := Option.some.inj hm
 refine q_rt ?_
 exact q_rm
open Go.Proofs
set_option maxHeartbeats 4000000
set_option maxRecDepth 100000
def DF (r : Int) : V := vi r
def GY (r : Int) : List (Nat × (Nat × O)) := []
def NG (a1 : List qI) (x4 : Int) (x5 : Int) (x13 : Bool) : St :=
 ⟨[(3, vi x4), (5, vp 0 0), (13, vc (tl qH default a1)), (14, vi ((a1.length : Nat) : Int)), (15, vi x5), (39, vb x13)], [(0, bx 68 [ci ((a1.getD x5.toNat default).Len), ci (((a1.getD x5.toNat default).Sec).Low), tl e_Span default (((a1.getD x5.toNat default).Sec).Rows)])]⟩
def KW (a1 : List qI) (x4 : Int) (x5 : Int) : St :=
 ⟨[(3, vi x4), (13, vc (tl qH default a1)), (14, vi ((a1.length : Nat) : Int)), (15, vi x5)], []⟩
def NV : St :=
 ⟨[], []⟩
theorem AY (E : Env 0) (a1 : List qI) : ∀ (n : Nat) (x4 : Int) (x5 : Int) (res : Int ⊕ Unit), QL a1 n x4 x5 = some res → HL (kx E 45 0) (nd Try.f43 500) (wS 0 (fun o => NV) (fun v st => RetQ Try.prog Try.f43 (DF v) (GY v) .ret st) res) n (KW a1 x4 x5) := by
 intro n
 induction n with
 | zero =>
  intro x4 x5 res hm
  cases hm
 | succ n ih =>
  intro x4 x5 res hm
  refine qU ?_
  refine q_sq ?_
  refine q_vu [] 0 [] [(16, vb (decide (x5 < ((a1.length : Nat) : Int))))] [] [] ?_
  refine q_sq ?_
  refine q_cn (decide (x5 < ((a1.length : Nat) : Int))) (fun b6 => ?_) (fun b6 => ?_)
  ·replace hm := qB b6 hm
   refine q_sk ?_
   refine q_sq ?_
   refine q_bk 1 ?_
   refine q_sq ?_
   obtain ⟨g7, hm⟩ := qO hm
   refine q_vu [qd 0 (Dir.none) (inb_of g7)] 0 [16] [(5, vp 0 0)] [] [(0, bx 68 [ci ((a1.getD x5.toNat default).Len), ci (((a1.getD x5.toNat default).Sec).Low), tl e_Span default (((a1.getD x5.toNat default).Sec).Rows)])] ?_
   refine q_sq ?_
   refine q_sq ?_
   obtain ⟨v8, h9, hm⟩ := qC hm
   refine q_vu [qc 2 [20] 1 (NB ((a1.getD x5.toNat default).Sec) v8 h9)] 1 [] [(6, vi v8)] [] [] ?_
   refine q_sq ?_
   refine q_vu [] 1 [] [(23, vb (v8 != 0))] [] [] ?_
   refine q_cn (v8 != 0) (fun b10 => ?_) (fun b10 => ?_)
   ·replace hm := qB b10 hm
    refine q_sq ?_
    refine q_vn [] 1 ⟨[(2, vi v8)], []⟩ ?_
    obtain rfl := Option.some.inj hm
    refine q_rt ?_
    refine zB v8 ?_
    exact q_rm
   ·replace hm := qA b10 hm
    refine q_sk ?_
    refine q_sq ?_
    refine q_sq ?_
    refine q_vu [] 1 [6, 23] [(29, vb ((((((a1.getD x5.toNat default).Sec).Rows).length : Nat) : Int) == 0))] [] [] ?_
    refine q_cn ((((((a1.getD x5.toNat default).Sec).Rows).length : Nat) : Int) == 0) (fun b11 => ?_) (fun b11 => ?_)
    ·replace hm := qB b11 hm
     refine q_sq ?_
     refine q_vn [] 1 ⟨[(2, vi 18)], []⟩ ?_
     obtain rfl := Option.some.inj hm
     refine q_rt ?_
     refine zB 18 ?_
     exact q_rm
    ·replace hm := qA b11 hm
     refine q_sk ?_
     refine q_sq ?_
     refine q_jn (ι := Bool) (fun p => NG a1 x4 x5 p) (fun p => UN a1 x4 x5 (QL a1 n) p = some res) ?_ ?_
     ·rintro x13 hm
      show H _ (NG a1 x4 x5 x13) _ _
      refine q_cn x13 (fun b14 => ?_) (fun b14 => ?_)
      ·replace hm := qB b14 hm
       refine q_sq ?_
       refine q_vn [] 1 ⟨[(2, vi 9)], []⟩ ?_
       obtain rfl := Option.some.inj hm
       refine q_rt ?_
       refine zB 9 ?_
       exact q_rm
      ·replace hm := qA b14 hm
       refine q_sk ?_
       refine q_vu [] 1 [3, 5, 39] [(3, vi (w64 (x4 + ((a1.getD x5.toNat default).Len))))] [0] [] ?_
       refine q_vu [] 1 [15] [(15, vi (w64 (x5 + 1)))] [] [] ?_
       exact q_hl (KW a1 (w64 (x4 + ((a1.getD x5.toNat default).Len))) (w64 (x5 + 1))) (ih (w64 (x4 + ((a1.getD x5.toNat default).Len))) (w64 (x5 + 1)) _ hm)
     ·rcases Bool.eq_false_or_eq_true (decide (((a1.getD x5.toNat default).Len) < 1)) with b12 | b12
      ·replace hm := qB b12 hm
       refine q_vu [qf 3 b12] 1 [29] [(39, vb true)] [] [] ?_
       exact q_J (true) hm
      ·replace hm := qA b12 hm
       refine q_vu [qf 3 b12] 1 [29] [(39, vb (decide (((a1.getD x5.toNat default).Len) > (w64 (20000 - x4)))))] [] [] ?_
       exact q_J (decide (((a1.getD x5.toNat default).Len) > (w64 (20000 - x4)))) hm
  ·replace hm := qA b6 hm
   refine q_ex 0 ?_
   obtain rfl := Option.some.inj hm
   exact wZ () (by kernel_rfl) (by kernel_rfl)
theorem jV (a1 : List qI) (r : Int) (hm : XY a1 = some r) : CtX Try.prog globs 43 0 0 [.one (tl qH default a1)] [] (DF r) (GY r) := by
 unfold XY at hm
 refine q_E Try.f43 45 fun E => ?_
 refine q_sq ?_
 refine q_vn [] 0 ⟨[(0, vc (tl qH default a1))], []⟩ ?_
 refine q_sq ?_
 refine q_sq ?_
 refine q_vu [] 0 [] [(9, vb (((a1.length : Nat) : Int) == 0))] [] [] ?_
 refine q_cn (((a1.length : Nat) : Int) == 0) (fun b2 => ?_) (fun b2 => ?_)
 ·replace hm := qB b2 hm
  refine q_sq ?_
  refine q_vn [] 0 ⟨[(2, vi 3)], []⟩ ?_
  obtain rfl := Option.some.inj hm
  refine q_rt ?_
  exact q_rm
 ·replace hm := qA b2 hm
  refine q_sk ?_
  refine q_sq ?_
  refine q_sq ?_
  refine q_vu [] 0 [9] [(12, vb (decide (((a1.length : Nat) : Int) > 24)))] [] [] ?_
  refine q_cn (decide (((a1.length : Nat) : Int) > 24)) (fun b3 => ?_) (fun b3 => ?_)
  ·replace hm := qB b3 hm
   refine q_sq ?_
   refine q_vn [] 0 ⟨[(2, vi 4)], []⟩ ?_
   obtain rfl := Option.some.inj hm
   refine q_rt ?_
   exact q_rm
  ·replace hm := qA b3 hm
   refine q_sk ?_
   refine q_sq ?_
   refine q_vu [] 0 [12] [(3, vi 0)] [] [] ?_
   refine q_sq ?_
   refine q_sq ?_
   refine q_vu [] 0 [0] [(13, vc (tl qH default a1)), (14, vi ((a1.length : Nat) : Int)), (15, vi 0)] [] [] ?_
   obtain ⟨u17, h16, hm⟩ := qC hm
   refine zH (nd Try.f43 500) 0 (by kernel_rfl) FUEL (fun o => NV) (fun v st => RetQ Try.prog Try.f43 (DF v) (GY v) .ret st) u17 (q_hl (KW a1 0 0) (AY E a1 FUEL 0 0 u17 h16)) ?_ ?_
   ·rintro v18 rfl st hr
    obtain rfl := Option.some.inj hm
    exact hr
   ·rintro o15 rfl
    replace hm : _ = some r := hm
    refine q_sq ?_
    refine q_vn [] 0 ⟨[(2, vi 0)], []⟩ ?_
    obtain rfl := Option.some.inj hm
    refine q_rt ?_
    exact q_rm
def qBV (r : (List qI)) : V := vc (tl qH default r)
def qBQ (r : (List qI)) : List (Nat × (Nat × O)) := []
theorem UR (a1 : List qI) (r : (List qI)) (hm : KH a1 = some r) : CtX Try.prog globs 26 0 0 [.one (tl qH default a1)] [] (qBV r) (qBQ r) := by
 unfold KH at hm
 refine q_E Try.f26 7 fun E => ?_
 refine q_sq ?_
 refine q_vn [] 0 ⟨[(0, vc (tl qH default a1))], []⟩ ?_
 refine q_sq ?_
 refine q_sq ?_
 obtain ⟨v2, h3, hm⟩ := qC hm
 refine q_vu [qc 1 [3] 0 (jV a1 v2 h3)] 0 [] [(5, vb (v2 != 0))] [] [] ?_
 refine q_cn (v2 != 0) (fun b4 => ?_) (fun b4 => ?_)
 ·replace hm := qB b4 hm
  refine q_sq ?_
  refine q_vn [] 0 ⟨[(2, vc (.emp))], []⟩ ?_
  refine q_fn [.own 2 0 68 3 (rf qH ([] : List qI))] ⟨[(2, vo 0 0 3 0)], [(0, ro 0 68 3 0 (rf qH ([] : List qI)))]⟩ o0 ?_
  refine q_fn [.len 0 (([] : List qI).length), .frz 0] ⟨[(2, vc (tl qH default ([] : List qI)))], []⟩ (o1 (And.intro (And.intro (show 0 = ([] : List qI).length from rfl) (show 0 = ([] : List qI).length from rfl)) (Nat.le_refl (([] : List qI).length)))) ?_
  obtain rfl := Option.some.inj hm
  refine q_rt ?_
  exact q_rm
 ·replace hm := qA b4 hm
  refine q_sk ?_
  refine q_sq ?_
  refine q_vn [] 0 ⟨[(2, vc (tl qH default a1))], []⟩ ?_
  obtain rfl := Option.some.inj hm
  refine q_rt ?_
  exact q_rm
set_option maxRecDepth 100000
def CV (r : (List Span)) : V := vo 0 0 2 r.length
def qAn (r : (List Span)) : List (Nat × (Nat × O)) := [(0, ro 0 26 2 r.length (rf e_Span r))]
def YP (a1 : List qI) (l3 : List Span) (l3n : Nat) (x4 : Int) (x5 : Int) : St :=
 ⟨[(3, vo 0 0 2 l3n), (4, vi x4), (10, vc (tl qH default a1)), (11, vi ((a1.length : Nat) : Int)), (12, vi x5)], [(0, ro 0 26 2 l3n (rf e_Span l3))]⟩
def GL (l9 : List Span) : St :=
 ⟨[(3, vo 0 0 2 l9.length)], [(0, ro 0 26 2 l9.length (rf e_Span l9))]⟩
theorem SH (E : Env 0) (a1 : List qI) : ∀ (n : Nat) (l3 : List Span) (l3n : Nat) (x4 : Int) (x5 : Int) (res : (List Span)), l3.length = l3n → KZ a1 n l3 x4 x5 = some res → HL (kx E 32 0) (nd Try.f29 244) (wU 0 (fun o => GL o) res) n (YP a1 l3 l3n x4 x5) := by
 intro n
 induction n with
 | zero =>
  intro l3 l3n x4 x5 res hl0 hm
  cases hm
 | succ n ih =>
  intro l3 l3n x4 x5 res hl0 hm
  subst hl0
  refine qU ?_
  refine q_sq ?_
  refine q_vu [] 1 [] [(13, vb (decide (x5 < ((a1.length : Nat) : Int))))] [] [] ?_
  refine q_sq ?_
  refine q_cn (decide (x5 < ((a1.length : Nat) : Int))) (fun b6 => ?_) (fun b6 => ?_)
  ·replace hm := qB b6 hm
   refine q_sk ?_
   refine q_sq ?_
   refine q_bk 1 ?_
   refine q_sq ?_
   obtain ⟨g7, hm⟩ := qO hm
   refine q_vu [qd 1 (Dir.none) (inb_of g7)] 1 [13] [(5, vi x5), (6, vp 1 0)] [] [(1, bx 68 [ci ((a1.getD x5.toNat default).Len), ci (((a1.getD x5.toNat default).Sec).Low), tl e_Span default (((a1.getD x5.toNat default).Sec).Rows)])] ?_
   refine q_sq ?_
   obtain ⟨g8, hm⟩ := qO hm
   refine q_vu [qd 8 (Dir.none) (inb_of g8), qd 9 (drw 0 0 (rf e_Span (l3.set x5.toNat (Span.mk x4 (w64 (x4 + ((a1.getD x5.toNat default).Len))))))) (stP e_Span default (Span.mk x4 (w64 (x4 + ((a1.getD x5.toNat default).Len)))) l3 l3.length x5.toNat 0 [ci x4, ci (w64 (x4 + ((a1.getD x5.toNat default).Len)))] rfl (toNat_lt (inb_of g8)) rfl)] 2 [5] [] [0] [(0, ro 0 26 2 l3.length (rf e_Span (l3.set x5.toNat (Span.mk x4 (w64 (x4 + ((a1.getD x5.toNat default).Len)))))))] ?_
   refine q_vu [] 2 [4, 6] [(4, vi (w64 (x4 + ((a1.getD x5.toNat default).Len))))] [1] [] ?_
   refine q_vu [] 2 [12] [(12, vi (w64 (x5 + 1)))] [] [] ?_
   exact q_hl (YP a1 (l3.set x5.toNat (Span.mk x4 (w64 (x4 + ((a1.getD x5.toNat default).Len))))) l3.length (w64 (x4 + ((a1.getD x5.toNat default).Len))) (w64 (x5 + 1))) (ih (l3.set x5.toNat (Span.mk x4 (w64 (x4 + ((a1.getD x5.toNat default).Len))))) l3.length (w64 (x4 + ((a1.getD x5.toNat default).Len))) (w64 (x5 + 1)) _ (len_set rfl) hm)
  ·replace hm := qA b6 hm
   refine q_ex 0 ?_
   obtain rfl := Option.some.inj hm
   exact yH (by kernel_rfl) (by kernel_rfl)
theorem OZ (a1 : List qI) (r : (List Span)) (hm : GQ a1 = some r) : CtX Try.prog globs 29 0 0 [.one (tl qH default a1)] [] (CV r) (qAn r) := by
 unfold GQ at hm
 refine q_E Try.f29 32 fun E => ?_
 refine q_sq ?_
 refine q_vn [] 0 ⟨[(0, vc (tl qH default a1))], []⟩ ?_
 refine q_sq ?_
 obtain ⟨g2, hm⟩ := qO hm
 refine q_vu [qd 2 (drw 0 0 (rf e_Span (List.replicate (((a1.length : Nat) : Int).toNat) (Span.mk 0 0)))) (mkP e_Span default (Span.mk 0 0) ((a1.length : Nat) : Int) 16 [ci 0, ci 0] (mkOk_of g2) rfl)] 0 [] [(3, vo 0 0 2 (((a1.length : Nat) : Int).toNat))] [] [(0, ro 0 26 2 (((a1.length : Nat) : Int).toNat) (rf e_Span (List.replicate (((a1.length : Nat) : Int).toNat) (Span.mk 0 0))))] ?_
 refine q_sq ?_
 refine q_vu [] 1 [] [(4, vi 0)] [] [] ?_
 refine q_sq ?_
 refine q_sq ?_
 refine q_vu [] 1 [0] [(10, vc (tl qH default a1)), (11, vi ((a1.length : Nat) : Int)), (12, vi 0)] [] [] ?_
 obtain ⟨o10, h11, hm⟩ := qC hm
 refine wO (nd Try.f29 244) 0 (by kernel_rfl) FUEL (fun o => GL o) o10 (q_hl (YP a1 (List.replicate (((a1.length : Nat) : Int).toNat) (Span.mk 0 0)) (((a1.length : Nat) : Int).toNat) 0 0) (SH E a1 FUEL (List.replicate (((a1.length : Nat) : Int).toNat) (Span.mk 0 0)) (((a1.length : Nat) : Int).toNat) 0 0 o10 len_rep h11)) ?_
 refine q_sq ?_
 refine q_vu [] 1 [3] [(2, vo 0 0 2 o10.length)] [] [] ?_
 obtain rfl := Option.some.inj hm
 refine q_rt ?_
 exact q_rm
open Go.Proofs
set_option maxHeartbeats 4000000
set_option maxRecDepth 100000
def qAQ (r : Int) : V := vi r
def qA8 (r : Int) : List (Nat × (Nat × O)) := []
def DY (a2 : Box) (v3 : (List qI)) (v5 : (List Span)) (x8 : Int) (x19 : Int) : St :=
 ⟨[(0, vc (tl qH default v3)), (3, vp 0 0), (5, vi x19), (12, vo 1 0 2 v5.length), (13, vi ((v5.length : Nat) : Int)), (14, vi x8)], [(0, bx 52 (wM a2)), (1, ro 0 26 2 v5.length (rf e_Span v5))]⟩
def XK (a2 : Box) (v3 : (List qI)) (v5 : (List Span)) (x7 : Int) (x8 : Int) : St :=
 ⟨[(0, vc (tl qH default v3)), (3, vp 0 0), (5, vi x7), (12, vo 1 0 2 v5.length), (13, vi ((v5.length : Nat) : Int)), (14, vi x8)], [(0, bx 52 (wM a2)), (1, ro 0 26 2 v5.length (rf e_Span v5))]⟩
def DZ (x20 : Int) : St :=
 ⟨[(5, vi x20)], []⟩
theorem EG (E : Env 0) (a2 : Box) (v3 : (List qI)) (v5 : (List Span)) : ∀ (n : Nat) (x7 : Int) (x8 : Int) (res : Int), yV a2 v3 v5 n x7 x8 = some res → HL (kx E 43 0) (nd Try.f17 244) (wU 0 (fun o => DZ o) res) n (XK a2 v3 v5 x7 x8) := by
 intro n
 induction n with
 | zero =>
  intro x7 x8 res hm
  cases hm
 | succ n ih =>
  intro x7 x8 res hm
  refine qU ?_
  refine q_sq ?_
  refine q_vu [] 2 [] [(15, vb (decide (x8 < ((v5.length : Nat) : Int))))] [] [] ?_
  refine q_sq ?_
  refine q_cn (decide (x8 < ((v5.length : Nat) : Int))) (fun b9 => ?_) (fun b9 => ?_)
  ·replace hm := qB b9 hm
   refine q_sk ?_
   refine q_jn (ι := Int) (fun p => DY a2 v3 v5 x8 p) (fun p => TL x8 (yV a2 v3 v5 n) p = some res) ?_ ?_
   ·rintro x19 hm
    show H _ (DY a2 v3 v5 x8 x19) _ _
    refine q_vu [] 3 [14] [(14, vi (w64 (x8 + 1)))] [] [] ?_
    exact q_hl (XK a2 v3 v5 x19 (w64 (x8 + 1))) (ih x19 (w64 (x8 + 1)) _ hm)
   ·refine q_bk 1 ?_
    refine q_sq ?_
    obtain ⟨g10, hm⟩ := qO hm
    refine q_vu [qd 1 (Dir.none) (inb_of g10), qd 2 (Dir.none) (toNat_lt (inb_of g10))] 2 [15] [(6, vi x8), (7, vp 2 0)] [] [(2, bx 26 [ci ((v5.getD x8.toNat default).A), ci ((v5.getD x8.toNat default).B)])] ?_
    refine q_sq ?_
    obtain ⟨v11, h12, hm⟩ := qC hm
    obtain ⟨v13, h14, hm⟩ := qC hm
    refine q_vu [qc 3 [19, 21] 3 (QO (v5.getD x8.toNat default) a2.Z v11 h12), qc 4 [22] 3 (WH v11 v13 h14)] 3 [7] [(8, vi v13)] [2] [] ?_
    refine q_sq ?_
    refine q_vu [] 3 [] [(25, vb (decide (v13 > 0)))] [] [] ?_
    refine q_cn (decide (v13 > 0)) (fun b15 => ?_) (fun b15 => ?_)
    ·replace hm := qB b15 hm
     obtain ⟨g16, hm⟩ := qO hm
     obtain ⟨v17, h18, hm⟩ := qC hm
     refine q_du [qd 4 (Dir.none) (inb_of g16), qc 12 [32, 37] 3 (DX ((v3.getD x8.toNat default).Sec) (Rect.mk a2.X a2.Y) v17 h18)] [0, 0, 0, 0, 12, 28, 60, 0, 128, 0, 512, 1920, 4092, 8190, 16383, 32767] 3 [5, 6, 8, 25] [(5, vi (w64 (x7 + (w64 (v13 * v17)))))] [] [] ?_
     exact q_J (w64 (x7 + (w64 (v13 * v17)))) hm
    ·replace hm := qA b15 hm
     refine q_sk ?_
     exact q_J (x7) hm
  ·replace hm := qA b9 hm
   refine q_ex 0 ?_
   obtain rfl := Option.some.inj hm
   exact yH (by kernel_rfl) (by kernel_rfl)
theorem JD (a1 : List qI) (a2 : Box) (r : Int) (hm : QM a1 a2 = some r) : CtX Try.prog globs 17 0 0 [.one (tl qH default a1), .agg (wM a2)] [] (qAQ r) (qA8 r) := by
 unfold QM at hm
 refine q_E Try.f17 43 fun E => ?_
 refine q_sq ?_
 refine q_vn [] 0 ⟨[(0, vc (tl qH default a1)), (3, vp 0 0)], [(0, bx 52 (wM a2))]⟩ ?_
 refine q_sq ?_
 obtain ⟨v3, h4, hm⟩ := qC hm
 refine q_vu [qc 1 [9] 1 (UR a1 v3 h4)] 1 [0] [(0, vc (tl qH default v3))] [] [] ?_
 refine q_sq ?_
 refine q_vu [] 1 [] [(5, vi 0)] [] [] ?_
 refine q_sq ?_
 refine q_sq ?_
 obtain ⟨v5, h6, hm⟩ := qC hm
 refine q_vu [qc 1 [11] 1 (OZ v3 v5 h6)] 1 [] [(12, vo 1 0 2 v5.length), (13, vi ((v5.length : Nat) : Int)), (14, vi 0)] [] [(1, ro 0 26 2 v5.length (rf e_Span v5))] ?_
 obtain ⟨o21, h22, hm⟩ := qC hm
 refine wO (nd Try.f17 244) 0 (by kernel_rfl) FUEL (fun o => DZ o) o21 (q_hl (XK a2 v3 v5 0 0) (EG E a2 v3 v5 FUEL 0 0 o21 h22)) ?_
 refine q_sq ?_
 refine q_vn [] 2 ⟨[(4, vi o21)], []⟩ ?_
 obtain rfl := Option.some.inj hm
 refine q_rt ?_
 exact q_rm
end Saw
end Go.SL
