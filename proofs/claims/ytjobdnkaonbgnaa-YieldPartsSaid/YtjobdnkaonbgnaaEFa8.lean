import Derived.Test.YtjobdnkaonbgnaaEBase
import Derived.Test.YtjobdnkaonbgnaaEFa7
set_option linter.unusedVariables false
set_option linter.unusedSimpArgs false
namespace Go.SL
namespace Saw
open Go.Proofs
set_option maxHeartbeats 4000000
set_option maxRecDepth 100000
def qD9 (r : Int × Int) : V := .tup [.one (ci r.1), .one (ci r.2)]
def qEP (r : Int × Int) : List (Nat × (Nat × O)) := []
def MY (x21 : Int) : St :=
 ⟨[(10, vc (.val (.int .u64 x21)))], []⟩
def MU (v12 : Int × Int) (x18 : Bool) : St :=
 ⟨[(10, vc (.val (.int .u64 v12.1))), (11, vc (.val (.int .u64 v12.2))), (52, vb x18)], []⟩
theorem qDj (a1 : Int) (a2 : Int) (a3 : Int) (r : Int × Int) (hm : TJ a1 a2 a3 = some r) : CtX Try.prog globs 28 0 0 [.one (ci a1), .one (ci a2), .one (ci a3)] [] (qD9 r) (qEP r) := by
 unfold TJ at hm
 refine q_E Try.f28 60 fun E => ?_
 refine q_sq ?_
 refine q_vn [] 0 ⟨[(0, vi a1), (1, vi a2), (2, vi a3)], []⟩ ?_
 refine q_sq ?_
 refine q_sq ?_
 refine q_vu [] 0 [] [(13, vb (decide (a3 ≤ 0)))] [] [] ?_
 refine q_cn (decide (a3 ≤ 0)) (fun b4 => ?_) (fun b4 => ?_)
 ·replace hm := qA b4 hm
  refine q_sq ?_
  refine q_vn [] 0 ⟨[(6, vi 0), (7, vi 9)], []⟩ ?_
  obtain rfl := Option.some.inj hm
  refine q_rt ?_
  exact q_rm
 ·replace hm := qB b4 hm
  refine q_sk ?_
  refine q_sq ?_
  obtain ⟨v5, h6, hm⟩ := qC hm
  obtain ⟨v7, h8, hm⟩ := qC hm
  obtain ⟨v9, h10, hm⟩ := qC hm
  refine q_vu [qc 1 [15] 0 (LV a1 v5 h6), qc 3 [17] 0 (LV a2 v7 h8), qc 4 [16, 18] 0 (qAz v5 v7 v9 h10)] 0 [13] [(8, vc (.val (.int .u64 v9.1))), (9, vc (.val (.int .u64 v9.2)))] [] [] ?_
  refine q_sq ?_
  refine q_sq ?_
  refine q_vu [] 0 [] [(25, vb (decide (v9.1 ≥ (IntKind.u64.wrap (a3)))))] [] [] ?_
  refine q_cn (decide (v9.1 ≥ (IntKind.u64.wrap (a3)))) (fun b11 => ?_) (fun b11 => ?_)
  ·replace hm := qA b11 hm
   refine q_sq ?_
   refine q_vn [] 0 ⟨[(6, vi 0), (7, vi 9)], []⟩ ?_
   obtain rfl := Option.some.inj hm
   refine q_rt ?_
   exact q_rm
  ·replace hm := qB b11 hm
   refine q_sk ?_
   refine q_sq ?_
   obtain ⟨v12, h13, hm⟩ := qC hm
   refine q_vu [qc 4 [27, 28, 30] 0 (qAq v9.1 v9.2 (IntKind.u64.wrap (a3)) v12 h13)] 0 [2, 8, 9, 25] [(10, vc (.val (.int .u64 v12.1))), (11, vc (.val (.int .u64 v12.2)))] [] [] ?_
   refine q_sq ?_
   refine q_sq ?_
   refine q_vu [] 0 [0, 1] [(38, vb ((decide (a1 < 0)) == (decide (a2 < 0))))] [] [] ?_
   refine q_cn ((decide (a1 < 0)) == (decide (a2 < 0))) (fun b14 => ?_) (fun b14 => ?_)
   ·replace hm := qA b14 hm
    refine q_sq ?_
    refine q_sq ?_
    refine q_vu [] 0 [11, 38] [(40, vb (decide (v12.1 > 9223372036854775807)))] [] [] ?_
    refine q_cn (decide (v12.1 > 9223372036854775807)) (fun b15 => ?_) (fun b15 => ?_)
    ·replace hm := qA b15 hm
     refine q_sq ?_
     refine q_vn [] 0 ⟨[(6, vi 0), (7, vi 9)], []⟩ ?_
     obtain rfl := Option.some.inj hm
     refine q_rt ?_
     exact q_rm
    ·replace hm := qB b15 hm
     refine q_sk ?_
     refine q_sq ?_
     refine q_vn [] 0 ⟨[(6, vi (w64 (v12.1))), (7, vi 0)], []⟩ ?_
     obtain rfl := Option.some.inj hm
     refine q_rt ?_
     exact q_rm
   ·replace hm := qB b14 hm
    refine q_sk ?_
    refine q_sq ?_
    refine q_jn (ι := Bool) (fun p => MU v12 p) (fun p => RO v12 p = some r) ?_ ?_
    ·rintro x18 hm
     show H _ (MU v12 x18) _ _
     refine q_cn x18 (fun b19 => ?_) (fun b19 => ?_)
     ·replace hm := qA b19 hm
      refine q_sq ?_
      refine q_vn [] 0 ⟨[(6, vi 0), (7, vi 9)], []⟩ ?_
      obtain rfl := Option.some.inj hm
      refine q_rt ?_
      exact q_rm
     ·replace hm := qB b19 hm
      refine q_sk ?_
      refine q_jn (ι := Int) (fun p => MY p) (fun p => BF p = some r) ?_ ?_
      ·rintro x21 hm
       show H _ (MY x21) _ _
       refine q_sq ?_
       refine q_vn [] 0 ⟨[(6, vi (w64 (IntKind.u64.wrap (0 - x21)))), (7, vi 0)], []⟩ ?_
       obtain rfl := Option.some.inj hm
       refine q_rt ?_
       exact q_rm
      ·refine q_sq ?_
       refine q_vu [] 0 [11, 52] [(54, vb (decide (v12.2 > 0)))] [] [] ?_
       refine q_cn (decide (v12.2 > 0)) (fun b20 => ?_) (fun b20 => ?_)
       ·replace hm := qA b20 hm
        refine q_vn [] 0 ⟨[(10, vc (.val (.int .u64 (IntKind.u64.wrap (v12.1 + 1)))))], []⟩ ?_
        exact q_J (IntKind.u64.wrap (v12.1 + 1)) hm
       ·replace hm := qB b20 hm
        refine q_sk ?_
        exact q_J (v12.1) hm
    ·rcases Bool.eq_false_or_eq_true (decide (v12.1 > 9223372036854775808)) with b16 | b16
     ·replace hm := qA b16 hm
      refine q_vu [qf 2 b16] 0 [38] [(52, vb true)] [] [] ?_
      exact q_J (true) hm
     ·replace hm := qB b16 hm
      rcases Bool.eq_false_or_eq_true (v12.1 == 9223372036854775808) with b17 | b17
      ·replace hm := qA b17 hm
       refine q_vu [qf 2 b16, qf 5 b17] 0 [38] [(52, vb (decide (v12.2 > 0)))] [] [] ?_
       exact q_J (decide (v12.2 > 0)) hm
      ·replace hm := qB b17 hm
       refine q_vu [qf 2 b16, qf 5 b17] 0 [38] [(52, vb false)] [] [] ?_
       exact q_J (false) hm
def DH (r : Bool) : V := vb r
def DA (r : Bool) : List (Nat × (Nat × O)) := []
def NR (a1 : Yield) (x2 : Int) (x6 : Bool) : St :=
 ⟨[(1, vp 0 0), (13, va [ci a1.Log, ci a1.Boards, ci a1.Chips, ci a1.Dust]), (14, vi x2), (22, vb x6)], [(0, bx 41 (zF a1))]⟩
def RE (a1 : Yield) (x2 : Int) : St :=
 ⟨[(1, vp 0 0), (13, va [ci a1.Log, ci a1.Boards, ci a1.Chips, ci a1.Dust]), (14, vi x2)], [(0, bx 41 (zF a1))]⟩
def NT (a1 : Yield) : St :=
 ⟨[(1, vp 0 0)], [(0, bx 41 (zF a1))]⟩
theorem OU (E : Env 0) (a1 : Yield) : ∀ (n : Nat) (x2 : Int) (res : Bool ⊕ Unit), qZ a1 n x2 = some res → HL (kx E 35 0) (nd Try.f12 52) (yI 0 (fun o => NT a1) (fun v st => RetQ Try.prog Try.f12 (DH v) (DA v) .ret st) res) n (RE a1 x2) := by
 intro n
 induction n with
 | zero =>
  intro x2 res hm
  cases hm
 | succ n ih =>
  intro x2 res hm
  refine qT ?_
  refine q_sq ?_
  refine q_vu [] 1 [] [(15, vb (decide (x2 < 4)))] [] [] ?_
  refine q_sq ?_
  refine q_cn (decide (x2 < 4)) (fun b3 => ?_) (fun b3 => ?_)
  ·replace hm := qA b3 hm
   refine q_sk ?_
   refine q_sq ?_
   refine q_bk 1 ?_
   refine q_sq ?_
   obtain ⟨g4, hm⟩ := qP hm
   refine q_vu [qd 0 (Dir.none) (inb_of g4)] 1 [15] [(4, vi (([a1.Log, a1.Boards, a1.Chips, a1.Dust] : List Int).getD x2.toNat 0))] [] [] ?_
   refine q_jn (ι := Bool) (fun p => NR a1 x2 p) (fun p => VN x2 (qZ a1 n) p = some res) ?_ ?_
   ·rintro x6 hm
    show H _ (NR a1 x2 x6) _ _
    refine q_cn x6 (fun b7 => ?_) (fun b7 => ?_)
    ·replace hm := qA b7 hm
     refine q_sq ?_
     refine q_vn [] 1 ⟨[(2, vb false)], []⟩ ?_
     obtain rfl := Option.some.inj hm
     refine q_rt ?_
     refine zL false ?_
     exact q_rm
    ·replace hm := qB b7 hm
     refine q_sk ?_
     refine q_vu [] 1 [14, 22] [(14, vi (w64 (x2 + 1)))] [] [] ?_
     exact q_hl (RE a1 (w64 (x2 + 1))) (ih (w64 (x2 + 1)) _ hm)
   ·rcases Bool.eq_false_or_eq_true (decide ((([a1.Log, a1.Boards, a1.Chips, a1.Dust] : List Int).getD x2.toNat 0) < 0)) with b5 | b5
    ·replace hm := qA b5 hm
     refine q_vu [qf 2 b5] 1 [4] [(22, vb true)] [] [] ?_
     exact q_J (true) hm
    ·replace hm := qB b5 hm
     refine q_vu [qf 2 b5] 1 [4] [(22, vb (decide ((([a1.Log, a1.Boards, a1.Chips, a1.Dust] : List Int).getD x2.toNat 0) > 2305843009213693952)))] [] [] ?_
     exact q_J (decide ((([a1.Log, a1.Boards, a1.Chips, a1.Dust] : List Int).getD x2.toNat 0) > 2305843009213693952)) hm
  ·replace hm := qB b3 hm
   refine q_ex 0 ?_
   obtain rfl := Option.some.inj hm
   exact yP () (by kernel_rfl) (by kernel_rfl)
theorem yV (a1 : Yield) (r : Bool) (hm : QP a1 = some r) : CtX Try.prog globs 12 0 0 [.agg (zF a1)] [] (DH r) (DA r) := by
 unfold QP at hm
 refine q_E Try.f12 35 fun E => ?_
 refine q_sq ?_
 refine q_vn [] 0 ⟨[(1, vp 0 0)], [(0, bx 41 (zF a1))]⟩ ?_
 refine q_sq ?_
 refine q_sq ?_
 refine q_vu [] 1 [] [(13, va [ci a1.Log, ci a1.Boards, ci a1.Chips, ci a1.Dust]), (14, vi 0)] [] [] ?_
 obtain ⟨u10, h9, hm⟩ := qC hm
 refine zW (nd Try.f12 52) 0 (by kernel_rfl) FUEL (fun o => NT a1) (fun v st => RetQ Try.prog Try.f12 (DH v) (DA v) .ret st) u10 (q_hl (RE a1 0) (OU E a1 FUEL 0 u10 h9)) ?_ ?_
 ·rintro v11 rfl st hr
  obtain rfl := Option.some.inj hm
  exact hr
 ·rintro o8 rfl
  replace hm : _ = some r := hm
  refine q_sq ?_
  refine q_vn [] 1 ⟨[(2, vb (a1.Log == (w64 ((w64 (a1.Boards + a1.Chips)) + a1.Dust))))], []⟩ ?_
  obtain rfl := Option.some.inj hm
  refine q_rt ?_
  exact q_rm
set_option maxRecDepth 100000
def qCq (r : Int) : V := vi r
def qCh (r : Int) : List (Nat × (Nat × O)) := []
def NV (a1 : Yield) (x5 : Bool) : St :=
 ⟨[(1, vp 0 0), (12, vb x5)], [(0, bx 41 (zF a1))]⟩
theorem VK (a1 : Yield) (r : Int) (hm : QV a1 = some r) : CtX Try.prog globs 14 0 0 [.agg (zF a1)] [] (qCq r) (qCh r) := by
 unfold QV at hm
 refine q_E Try.f14 24 fun E => ?_
 refine q_sq ?_
 refine q_vn [] 0 ⟨[(1, vp 0 0)], [(0, bx 41 (zF a1))]⟩ ?_
 refine q_sq ?_
 refine q_jn (ι := Bool) (fun p => NV a1 p) (fun p => XD a1 p = some r) ?_ ?_
 ·rintro x5 hm
  show H _ (NV a1 x5) _ _
  refine q_cn x5 (fun b6 => ?_) (fun b6 => ?_)
  ·replace hm := qA b6 hm
   refine q_sq ?_
   refine q_vn [] 1 ⟨[(2, vi 0)], []⟩ ?_
   obtain rfl := Option.some.inj hm
   refine q_rt ?_
   exact q_rm
  ·replace hm := qB b6 hm
   refine q_sk ?_
   refine q_sq ?_
   obtain ⟨v7, h8, hm⟩ := qC hm
   refine q_vn [qk 4 [15, 17] 1 ⟨[(15, vi a1.Boards), (17, vi a1.Log)], []⟩ (qDj 1000 a1.Boards a1.Log v7 h8)] 1 ⟨[(3, vi v7.1), (4, vi v7.2)], []⟩ ?_
   refine q_sq ?_
   refine q_sq ?_
   refine q_vu [] 1 [4] [(22, vb (v7.2 != 0))] [] [] ?_
   refine q_cn (v7.2 != 0) (fun b9 => ?_) (fun b9 => ?_)
   ·replace hm := qA b9 hm
    refine q_sq ?_
    refine q_vn [] 1 ⟨[(2, vi 0)], []⟩ ?_
    obtain rfl := Option.some.inj hm
    refine q_rt ?_
    exact q_rm
   ·replace hm := qB b9 hm
    refine q_sk ?_
    refine q_sq ?_
    refine q_vn [] 1 ⟨[(2, vi v7.1)], []⟩ ?_
    obtain rfl := Option.some.inj hm
    refine q_rt ?_
    exact q_rm
 ·obtain ⟨v2, h3, hm⟩ := qC hm
  rcases Bool.eq_false_or_eq_true (!v2) with b4 | b4
  ·replace hm := qA b4 hm
   refine q_vu [qc 1 [5] 1 (yV a1 v2 h3), qf 3 b4] 1 [] [(12, vb true)] [] [] ?_
   exact q_J (true) hm
  ·replace hm := qB b4 hm
   refine q_vu [qc 1 [5] 1 (yV a1 v2 h3), qf 3 b4] 1 [] [(12, vb (a1.Log == 0))] [] [] ?_
   exact q_J (a1.Log == 0) hm
end Saw
end Go.SL
