import Derived.Test.YtgpgnlllieekbaaGreatDoorEBase
import Derived.Test.YtgpgnlllieekbaaGreatDoorEFa1
import Derived.Test.YtgpgnlllieekbaaGreatDoorEFa7
set_option linter.unusedVariables false
set_option linter.unusedSimpArgs false
namespace Go.SL
namespace Saw
open Go.Proofs
set_option maxHeartbeats 4000000
set_option maxRecDepth 100000
def SW (r : Int × Bool) : V := .tup [.one (ci r.1), .one (cb r.2)]
def EA (r : Int × Bool) : List (Nat × (Nat × O)) := []
def DU (a1 : qA) (a2 : Int) (x3 : Int) : St :=
 ⟨[(1, vi a2), (2, vp 0 0), (6, vi x3)], [(0, bx 58 (qE a1))]⟩
def qAa : St :=
 ⟨[], []⟩
theorem qDY (E : Env 0) (a1 : qA) (a2 : Int) : ∀ (n : Nat) (x3 : Int) (res : (Int × Bool) ⊕ Unit), QY a1 a2 n x3 = some res → HL (kx E 31 0) (nd Tryz.f99 52) (zZ 0 (fun o => qAa) (fun v st => RetQ Tryz.prog Tryz.f99 (SW v) (EA v) .ret st) res) n (DU a1 a2 x3) := by
 intro n
 induction n with
 | zero =>
  intro x3 res hm
  cases hm
 | succ n ih =>
  intro x3 res hm
  refine qN ?_
  refine q_sq ?_
  refine q_sq ?_
  refine q_vu [] 1 [] [(11, vb (decide (x3 < ((a1.Lengths.length : Nat) : Int))))] [] [] ?_
  refine q_cn (decide (x3 < ((a1.Lengths.length : Nat) : Int))) (fun b4 => ?_) (fun b4 => ?_)
  ·replace hm := qC b4 hm
   refine q_sk ?_
   refine q_sq ?_
   refine q_bk 1 ?_
   refine q_sq ?_
   obtain ⟨g5, hm⟩ := qI hm
   refine q_vu [qd 3 (Dir.none) (inb_of g5)] 1 [11] [(20, vb ((a1.Lengths.getD x3.toNat default) == a2))] [] [] ?_
   refine q_cn ((a1.Lengths.getD x3.toNat default) == a2) (fun b6 => ?_) (fun b6 => ?_)
   ·replace hm := qC b6 hm
    refine q_sq ?_
    refine q_sq ?_
    refine q_vu [] 1 [1, 20] [(25, vb (decide (x3 ≥ ((a1.Prices.length : Nat) : Int))))] [] [] ?_
    refine q_cn (decide (x3 ≥ ((a1.Prices.length : Nat) : Int))) (fun b7 => ?_) (fun b7 => ?_)
    ·replace hm := qC b7 hm
     refine q_sq ?_
     refine q_vn [] 1 ⟨[(4, vi 0), (5, vb false)], []⟩ ?_
     obtain rfl := Option.some.inj hm
     refine q_rt ?_
     refine qR (0, false) ?_
     exact q_rm
    ·replace hm := qB b7 hm
     refine q_sk ?_
     refine q_sq ?_
     obtain ⟨g8, hm⟩ := qI hm
     refine q_vn [qd 3 (Dir.none) (inb_of g8)] 1 ⟨[(4, vi (a1.Prices.getD x3.toNat default)), (5, vb true)], []⟩ ?_
     obtain rfl := Option.some.inj hm
     refine q_rt ?_
     refine qR ((a1.Prices.getD x3.toNat default), true) ?_
     exact q_rm
   ·replace hm := qB b6 hm
    refine q_sk ?_
    refine q_vu [] 1 [6, 20] [(6, vi (w64 (x3 + 1)))] [] [] ?_
    exact q_hl (DU a1 a2 (w64 (x3 + 1))) (ih (w64 (x3 + 1)) _ hm)
  ·replace hm := qB b4 hm
   refine q_ex 0 ?_
   obtain rfl := Option.some.inj hm
   exact wC () (by kernel_rfl) (by kernel_rfl)
theorem qBy (a1 : qA) (a2 : Int) (r : Int × Bool) (hm : PL a1 a2 = some r) : CtX Tryz.prog globs 99 0 0 [.agg (qE a1), .one (ci a2)] [] (SW r) (EA r) := by
 unfold PL at hm
 refine q_E Tryz.f99 31 fun E => ?_
 refine q_sq ?_
 refine q_vn [] 0 ⟨[(1, vi a2), (2, vp 0 0)], [(0, bx 58 (qE a1))]⟩ ?_
 refine q_sq ?_
 refine q_sq ?_
 refine q_vu [] 1 [] [(6, vi 0)] [] [] ?_
 obtain ⟨u11, h10, hm⟩ := qD hm
 refine zH (nd Tryz.f99 52) 0 (by kernel_rfl) FUEL (fun o => qAa) (fun v st => RetQ Tryz.prog Tryz.f99 (SW v) (EA v) .ret st) u11 (q_hl (DU a1 a2 0) (qDY E a1 a2 FUEL 0 u11 h10)) ?_ ?_
 ·rintro v12 rfl st hr
  obtain rfl := Option.some.inj hm
  exact hr
 ·rintro o9 rfl
  replace hm : _ = some r := hm
  refine q_sq ?_
  refine q_vn [] 1 ⟨[(4, vi 0), (5, vb false)], []⟩ ?_
  obtain rfl := Option.some.inj hm
  refine q_rt ?_
  exact q_rm
def qGn (r : Int) : V := vi r
def qGf (r : Int) : List (Nat × (Nat × O)) := []
def AZ (a1 : Span) (a2 : Span) (x6 : Bool) : St :=
 ⟨[(5, vi (imax a1.A a2.A)), (6, vi (imin a1.B a2.B)), (23, vb x6)], []⟩
theorem qA6 (a1 : Span) (a2 : Span) (r : Int) (hm : XH a1 a2 = some r) : CtX Tryz.prog globs 128 0 0 [.agg (e_Span a1), .agg (e_Span a2)] [] (qGn r) (qGf r) := by
 unfold XH at hm
 refine q_E Tryz.f128 27 fun E => ?_
 refine q_sq ?_
 refine q_vn [] 0 ⟨[(2, vp 0 0), (3, vp 1 0)], [(0, bx 26 (e_Span a1)), (1, bx 26 (e_Span a2))]⟩ ?_
 refine q_sq ?_
 refine q_du [] [0, 1, 0, 4, 15, 0, 32, 0, 128, 480, 31, 2047] 2 [2] [(5, vi (imax a1.A a2.A)), (6, vi (imin a1.B a2.B))] [0] [] ?_
 refine q_sq ?_
 refine q_jn (ι := Bool) (fun p => AZ a1 a2 p) (fun p => RQ a1 a2 p = some r) ?_ ?_
 ·rintro x6 hm
  show H _ (AZ a1 a2 x6) _ _
  refine q_cn x6 (fun b7 => ?_) (fun b7 => ?_)
  ·replace hm := qC b7 hm
   refine q_sq ?_
   refine q_vn [] 2 ⟨[(4, vi 0)], []⟩ ?_
   obtain rfl := Option.some.inj hm
   refine q_rt ?_
   exact q_rm
  ·replace hm := qB b7 hm
   refine q_sk ?_
   refine q_sq ?_
   refine q_vn [] 2 ⟨[(4, vi (w64 ((imin a1.B a2.B) - (imax a1.A a2.A))))], []⟩ ?_
   obtain rfl := Option.some.inj hm
   refine q_rt ?_
   exact q_rm
 ·obtain ⟨v3, h4, hm⟩ := qD hm
  rcases Bool.eq_false_or_eq_true v3 with b5 | b5
  ·replace hm := qC b5 hm
   refine q_vu [qc 1 [17] 2 (QV a2 v3 h4), qf 2 b5] 2 [3] [(23, vb true)] [1] [] ?_
   exact q_J (true) hm
  ·replace hm := qB b5 hm
   refine q_vu [qc 1 [17] 2 (QV a2 v3 h4), qf 2 b5] 2 [3] [(23, vb (decide ((imax a1.A a2.A) ≥ (imin a1.B a2.B))))] [1] [] ?_
   exact q_J (decide ((imax a1.A a2.A) ≥ (imin a1.B a2.B))) hm
set_option maxRecDepth 100000
def qFf (r : Span) : V := va (e_Span r)
def qEY (r : Span) : List (Nat × (Nat × O)) := []
theorem qEi (a1 : Int) (r : Span) (hm : PC a1 = some r) : CtX Tryz.prog globs 129 0 0 [.one (ci a1)] [] (qFf r) (qEY r) := by
 unfold PC at hm
 refine q_E Tryz.f129 9 fun E => ?_
 refine q_sq ?_
 refine q_vn [] 0 ⟨[(0, vi a1), (2, vp 0 0)], [(0, bx 26 [ci 0, ci 0])]⟩ ?_
 refine q_sq ?_
 refine q_vu [] 1 [0] [] [0] [(0, bx 26 [ci (w64 (10 * a1)), ci (w64 (10 * (w64 (a1 + 1))))])] ?_
 obtain rfl := Option.some.inj hm
 refine q_rt ?_
 exact q_rm
open Go.Proofs
set_option maxHeartbeats 4000000
set_option maxRecDepth 100000
def qIF (r : qH) : V := va (qY r)
def qIU (r : qH) : List (Nat × (Nat × O)) := []
theorem qF7 (a1 : qH) (r : qH) (hm : GL a1 = some r) : CtX Tryz.prog globs 127 0 0 [.agg (qY a1)] [] (qIF r) (qIU r) := by
 unfold GL at hm
 refine q_E Tryz.f127 8 fun E => ?_
 refine q_sq ?_
 refine q_vn [] 0 ⟨[(1, vp 0 0), (2, vp 1 0)], [(0, bx 54 (qY a1)), (1, bx 54 [ci 0, .emp])]⟩ ?_
 refine q_sq ?_
 refine q_sq ?_
 obtain ⟨v2, h3, hm⟩ := qD hm
 refine q_vu [qc 1 [3] 2 (qBs a1 v2 h3)] 2 [] [(5, vb (v2 != 0))] [] [] ?_
 refine q_cn (v2 != 0) (fun b4 => ?_) (fun b4 => ?_)
 ·replace hm := qC b4 hm
  refine q_sq ?_
  refine q_vu [] 2 [1, 5] [] [0] [] ?_
  refine q_fn [.ownB 1 1 2 26 2 (rf e_Span ([] : List Span))] ⟨[(2, vp 1 0)], [(1, bx 54 [ci 0, .own 2 0 2 0]), (2, ro 0 26 2 0 (rf e_Span ([] : List Span)))]⟩ o0 ?_
  refine q_fn [.len 2 (([] : List Span).length), .frz 2] ⟨[(2, vp 1 0)], [(1, bx 54 [ci 0, tl e_Span default ([] : List Span)])]⟩ (o1 (And.intro (And.intro (show 0 = ([] : List Span).length from rfl) (show 0 = ([] : List Span).length from rfl)) (Nat.le_refl (([] : List Span).length)))) ?_
  obtain rfl := Option.some.inj hm
  refine q_rt ?_
  exact q_rm
 ·replace hm := qB b4 hm
  refine q_sk ?_
  refine q_sq ?_
  refine q_vn [] 2 ⟨[(2, vp 1 0)], [(1, bx 54 (qY a1))]⟩ ?_
  obtain rfl := Option.some.inj hm
  refine q_rt ?_
  exact q_rm
def qGU (r : Int) : V := vi r
def qG0 (r : Int) : List (Nat × (Nat × O)) := []
def GB (a2 : Rect) (v3 : qH) (x5 : Int) (x6 : Int) : St :=
 ⟨[(2, vp 0 0), (3, vp 1 0), (5, vi x5), (6, vi x6)], [(0, bx 54 (qY v3)), (1, bx 28 (qK a2))]⟩
def EQ (x15 : Int) : St :=
 ⟨[(5, vi x15)], []⟩
theorem qC9 (E : Env 0) (a2 : Rect) (v3 : qH) : ∀ (n : Nat) (x5 : Int) (x6 : Int) (res : Int), WB a2 v3 n x5 x6 = some res → HL (kx E 36 0) (nd Tryz.f103 244) (zW 0 (fun o => EQ o) res) n (GB a2 v3 x5 x6) := by
 intro n
 induction n with
 | zero =>
  intro x5 x6 res hm
  cases hm
 | succ n ih =>
  intro x5 x6 res hm
  refine qN ?_
  refine q_sq ?_
  refine q_sq ?_
  refine q_vu [] 2 [] [(13, vb (decide (x6 < ((v3.Rows.length : Nat) : Int))))] [] [] ?_
  refine q_cn (decide (x6 < ((v3.Rows.length : Nat) : Int))) (fun b7 => ?_) (fun b7 => ?_)
  ·replace hm := qC b7 hm
   refine q_sk ?_
   refine q_sq ?_
   refine q_bk 1 ?_
   obtain ⟨g8, hm⟩ := qI hm
   obtain ⟨v9, h10, hm⟩ := qD hm
   obtain ⟨v11, h12, hm⟩ := qD hm
   obtain ⟨v13, h14, hm⟩ := qD hm
   refine q_du [qd 4 (Dir.none) (inb_of g8), qc 8 [21, 23] 2 (qA6 (v3.Rows.getD x6.toNat default) a2.X v9 h10), qc 13 [28] 2 (qEi (w64 (v3.Low + x6)) v11 h12), qc 16 [29, 31] 2 (qA6 v11 a2.Y v13 h14)] [0, 0, 2, 0, 14, 30, 0, 64, 254, 0, 512, 0, 3584, 8190, 0, 16384, 65534, 131070, 262143, 524287] 2 [5, 13] [(5, vi (w64 (x5 + (w64 (v9 * v13)))))] [] [] ?_
   refine q_vu [] 2 [6] [(6, vi (w64 (x6 + 1)))] [] [] ?_
   exact q_hl (GB a2 v3 (w64 (x5 + (w64 (v9 * v13)))) (w64 (x6 + 1))) (ih (w64 (x5 + (w64 (v9 * v13)))) (w64 (x6 + 1)) _ hm)
  ·replace hm := qB b7 hm
   refine q_ex 0 ?_
   obtain rfl := Option.some.inj hm
   exact wE (by kernel_rfl) (by kernel_rfl)
theorem qAK (a1 : qH) (a2 : Rect) (r : Int) (hm : XN a1 a2 = some r) : CtX Tryz.prog globs 103 0 0 [.agg (qY a1), .agg (qK a2)] [] (qGU r) (qG0 r) := by
 unfold XN at hm
 refine q_E Tryz.f103 36 fun E => ?_
 refine q_sq ?_
 refine q_vn [] 0 ⟨[(2, vp 0 0), (3, vp 1 0)], [(0, bx 54 (qY a1)), (1, bx 28 (qK a2))]⟩ ?_
 refine q_sq ?_
 refine q_vu [] 2 [] [(5, vi 0)] [] [] ?_
 refine q_sq ?_
 obtain ⟨v3, h4, hm⟩ := qD hm
 refine q_vu [qc 1 [7] 2 (qF7 a1 v3 h4)] 2 [] [] [0] [(0, bx 54 (qY v3))] ?_
 refine q_sq ?_
 refine q_sq ?_
 refine q_vu [] 2 [] [(6, vi 0)] [] [] ?_
 obtain ⟨o16, h17, hm⟩ := qD hm
 refine zM (nd Tryz.f103 244) 0 (by kernel_rfl) FUEL (fun o => EQ o) o16 (q_hl (GB a2 v3 0 0) (qC9 E a2 v3 FUEL 0 0 o16 h17)) ?_
 refine q_sq ?_
 refine q_vn [] 2 ⟨[(4, vi o16)], []⟩ ?_
 obtain rfl := Option.some.inj hm
 refine q_rt ?_
 exact q_rm
set_option maxRecDepth 100000
def qKe (r : Int) : V := vi r
def qJE (r : Int) : List (Nat × (Nat × O)) := []
theorem qCm (a1 : Span) (a2 : Int) (a3 : Int) (r : Int) (hm : UM a1 a2 a3 = some r) : CtX Tryz.prog globs 102 0 0 [.agg (e_Span a1), .one (ci a2), .one (ci a3)] [] (qKe r) (qJE r) := by
 unfold UM at hm
 refine q_E Tryz.f102 25 fun E => ?_
 refine q_sq ?_
 refine q_vn [] 0 ⟨[(1, vi a2), (2, vi a3), (3, vp 0 0)], [(0, bx 26 (e_Span a1))]⟩ ?_
 refine q_sq ?_
 refine q_dn [] [0, 1, 0, 7, 0, 16, 0, 0, 192, 496, 15, 2047] 1 ⟨[(7, vi (imax a1.A a2)), (8, vi (imin a1.B (w64 (a2 + a3))))], []⟩ ?_
 refine q_sq ?_
 refine q_sq ?_
 refine q_vu [] 1 [] [(21, vb (decide ((imax a1.A a2) ≥ (imin a1.B (w64 (a2 + a3))))))] [] [] ?_
 refine q_cn (decide ((imax a1.A a2) ≥ (imin a1.B (w64 (a2 + a3))))) (fun b4 => ?_) (fun b4 => ?_)
 ·replace hm := qC b4 hm
  refine q_sq ?_
  refine q_vn [] 1 ⟨[(6, vi 0)], []⟩ ?_
  obtain rfl := Option.some.inj hm
  refine q_rt ?_
  exact q_rm
 ·replace hm := qB b4 hm
  refine q_sk ?_
  refine q_sq ?_
  refine q_vn [] 1 ⟨[(6, vi (w64 ((imin a1.B (w64 (a2 + a3))) - (imax a1.A a2))))], []⟩ ?_
  obtain rfl := Option.some.inj hm
  refine q_rt ?_
  exact q_rm
open Go.Proofs
set_option maxHeartbeats 4000000
set_option maxRecDepth 100000
def qKA (r : (List Slice)) : V := vo 0 0 3 r.length
def qKv (r : (List Slice)) : List (Nat × (Nat × O)) := [(0, ro 0 56 3 r.length (rf qF r))]
def qBu (a1 : List Slice) (a2 : Span) (x7 : Int) (x8 : Int) (l15 : List Slice) (l15n : Nat) : St :=
 ⟨[(0, vc (tl qF default a1)), (3, vp 0 0), (5, vo 1 0 3 l15n), (6, vi x7), (7, vi x8)], [(0, bx 26 [ci (imax a2.A 0), ci (imin a2.B 20000)]), (1, ro 0 56 3 l15n (rf qF l15))]⟩
def LT (a1 : List Slice) (a2 : Span) (l6 : List Slice) (l6n : Nat) (x7 : Int) (x8 : Int) : St :=
 ⟨[(0, vc (tl qF default a1)), (3, vp 0 0), (5, vo 1 0 3 l6n), (6, vi x7), (7, vi x8)], [(0, bx 26 [ci (imax a2.A 0), ci (imin a2.B 20000)]), (1, ro 0 56 3 l6n (rf qF l6))]⟩
def qBj (l16 : List Slice) : St :=
 ⟨[(5, vo 1 0 3 l16.length)], [(1, ro 0 56 3 l16.length (rf qF l16))]⟩
theorem qFq (E : Env 0) (a1 : List Slice) (a2 : Span) : ∀ (n : Nat) (l6 : List Slice) (l6n : Nat) (x7 : Int) (x8 : Int) (res : (List Slice)), l6.length = l6n → ZK a1 a2 n l6 x7 x8 = some res → HL (kx E 53 0) (nd Tryz.f126 1012) (zW 0 (fun o => qBj o) res) n (LT a1 a2 l6 l6n x7 x8) := by
 intro n
 induction n with
 | zero =>
  intro l6 l6n x7 x8 res hl0 hm
  cases hm
 | succ n ih =>
  intro l6 l6n x7 x8 res hl0 hm
  subst hl0
  refine qN ?_
  refine q_sq ?_
  refine q_sq ?_
  refine q_vu [] 2 [] [(22, vb (decide (x8 < ((a1.length : Nat) : Int))))] [] [] ?_
  refine q_cn (decide (x8 < ((a1.length : Nat) : Int))) (fun b9 => ?_) (fun b9 => ?_)
  ·replace hm := qC b9 hm
   refine q_sk ?_
   refine q_sq ?_
   refine q_bk 1 ?_
   refine q_sq ?_
   obtain ⟨g10, hm⟩ := qI hm
   obtain ⟨v11, h12, hm⟩ := qD hm
   refine q_du [qd 4 (Dir.none) (inb_of g10), qc 7 [25, 26, 31] 2 (qCm (Span.mk (imax a2.A 0) (imin a2.B 20000)) x7 ((a1.getD x8.toNat default).Len) v11 h12)] [0, 0, 0, 0, 12, 28, 60, 127, 255] 2 [22] [(8, vi v11)] [] [] ?_
   refine q_jn (ι := (List Slice) × Nat) (fun p => qBu a1 a2 x7 x8 p.1 p.2) (fun p => p.1.length = p.2 ∧ LG a1 x7 x8 (ZK a1 a2 n) p.1 = some res) ?_ ?_
   ·rintro ⟨l15, l15n⟩ ⟨el15, hm⟩
    replace el15 : l15.length = l15n := el15
    subst el15
    show H _ (qBu a1 a2 x7 x8 l15 l15.length) _ _
    refine q_vu [qd 3 (Dir.none) (inb_of g10)] 3 [6] [(6, vi (w64 (x7 + ((a1.getD x8.toNat default).Len))))] [] [] ?_
    refine q_vu [] 3 [7] [(7, vi (w64 (x8 + 1)))] [] [] ?_
    exact q_hl (LT a1 a2 l15 l15.length (w64 (x7 + ((a1.getD x8.toNat default).Len))) (w64 (x8 + 1))) (ih l15 l15.length (w64 (x7 + ((a1.getD x8.toNat default).Len))) (w64 (x8 + 1)) _ rfl hm)
   ·refine q_sq ?_
    refine q_vu [] 2 [] [(34, vb (decide (v11 > 0)))] [] [] ?_
    refine q_cn (decide (v11 > 0)) (fun b13 => ?_) (fun b13 => ?_)
    ·replace hm := qC b13 hm
     obtain ⟨g14, hm⟩ := qI hm
     refine q_vu [qd 4 (Dir.none) (inb_of g10), qd 8 (drw 2 0 (rf qF ([(Slice.mk v11 ((a1.getD x8.toNat default).Sec))] : List Slice))) (litP qF default 3 (fun _ => rfl) ([(Slice.mk v11 ((a1.getD x8.toNat default).Sec))] : List Slice) 1 rfl), qd 9 (drw 1 1 (rf qF (l6 ++ ([(Slice.mk v11 ((a1.getD x8.toNat default).Sec))] : List Slice)))) (apP qF default l6 ([(Slice.mk v11 ((a1.getD x8.toNat default).Sec))] : List Slice) l6.length 1 3 40 (1 ≤ 1) (Nat.le_refl _) rfl rfl (fun _ => rfl) (wD g14))] 2 [5, 8, 34] [(5, vo 1 1 3 (l6.length + 1))] [1] [(1, ro 1 56 3 (l6.length + 1) (rf qF (l6 ++ ([(Slice.mk v11 ((a1.getD x8.toNat default).Sec))] : List Slice))))] ?_
     exact q_J ((l6 ++ ([(Slice.mk v11 ((a1.getD x8.toNat default).Sec))] : List Slice)), (l6.length + 1)) ⟨(len_app rfl rfl), hm⟩
    ·replace hm := qB b13 hm
     refine q_sk ?_
     exact q_J (l6, l6.length) ⟨rfl, hm⟩
  ·replace hm := qB b9 hm
   refine q_ex 0 ?_
   obtain rfl := Option.some.inj hm
   exact wE (by kernel_rfl) (by kernel_rfl)
theorem qJ4 (a1 : List Slice) (a2 : Span) (r : (List Slice)) (hm : HR a1 a2 = some r) : CtX Tryz.prog globs 126 0 0 [.one (tl qF default a1), .agg (e_Span a2)] [] (qKA r) (qKv r) := by
 unfold HR at hm
 refine q_E Tryz.f126 53 fun E => ?_
 refine q_sq ?_
 refine q_vn [] 0 ⟨[(0, vc (tl qF default a1)), (3, vp 0 0)], [(0, bx 26 (e_Span a2))]⟩ ?_
 refine q_sq ?_
 refine q_sq ?_
 obtain ⟨v3, h4, hm⟩ := qD hm
 refine q_vu [qc 1 [9] 1 (wT a1 v3 h4)] 1 [] [(11, vb (v3 != 0))] [] [] ?_
 refine q_cn (v3 != 0) (fun b5 => ?_) (fun b5 => ?_)
 ·replace hm := qC b5 hm
  refine q_sq ?_
  refine q_vn [] 1 ⟨[(4, vc (.emp))], []⟩ ?_
  refine q_fn [.own 4 1 56 3 (rf qF ([] : List Slice))] ⟨[(4, vo 1 0 3 0)], [(1, ro 0 56 3 0 (rf qF ([] : List Slice)))]⟩ o0 ?_
  refine q_fn [.len 1 (([] : List Slice).length)] ⟨[(4, vo 1 0 3 (([] : List Slice).length))], [(1, ro 0 56 3 (([] : List Slice).length) (rf qF ([] : List Slice)))]⟩ (o1 (And.intro (show 0 = ([] : List Slice).length from rfl) (show 0 = ([] : List Slice).length from rfl))) ?_
  obtain rfl := Option.some.inj hm
  refine qV 1 0 (by kernel_rfl) ?_
  refine q_rt ?_
  exact q_rm
 ·replace hm := qB b5 hm
  refine q_sk ?_
  refine q_sq ?_
  refine q_vu [] 1 [11] [(5, vc (.emp))] [] [] ?_
  refine q_sq ?_
  refine q_vu [] 1 [] [] [0] [(0, bx 26 [ci (imax a2.A 0), ci (imin a2.B 20000)])] ?_
  refine q_sq ?_
  refine q_vu [] 1 [] [(6, vi 0)] [] [] ?_
  refine q_sq ?_
  refine q_sq ?_
  refine q_vu [] 1 [] [(7, vi 0)] [] [] ?_
  refine q_fn [.own 5 1 56 3 (rf qF ([] : List Slice))] ⟨[(0, vc (tl qF default a1)), (3, vp 0 0), (5, vo 1 0 3 0), (6, vi 0), (7, vi 0)], [(0, bx 26 [ci (imax a2.A 0), ci (imin a2.B 20000)]), (1, ro 0 56 3 0 (rf qF ([] : List Slice)))]⟩ o0 ?_
  obtain ⟨o17, h18, hm⟩ := qD hm
  refine zM (nd Tryz.f126 1012) 0 (by kernel_rfl) FUEL (fun o => qBj o) o17 (q_hl (LT a1 a2 ([] : List Slice) 0 0 0) (qFq E a1 a2 FUEL ([] : List Slice) 0 0 0 o17 rfl h18)) ?_
  refine q_sq ?_
  refine q_vu [] 2 [5] [(4, vo 1 0 3 o17.length)] [] [] ?_
  obtain rfl := Option.some.inj hm
  refine qV 1 0 (by kernel_rfl) ?_
  refine q_rt ?_
  exact q_rm
def qJA (r : Int) : V := vi r
def qJ0 (r : Int) : List (Nat × (Nat × O)) := []
def NT (a2 : Box) (v3 : (List Slice)) (x5 : Int) (x6 : Int) : St :=
 ⟨[(3, vp 0 0), (5, vo 1 0 3 v3.length), (6, vi (w64 ((w64 (a2.X.B - a2.X.A)) * (w64 (a2.Y.B - a2.Y.A))))), (7, vi x5), (8, vi x6)], [(0, bx 108 (zA a2)), (1, ro 0 56 3 v3.length (rf qF v3))]⟩
def qAi (x12 : Int) : St :=
 ⟨[(7, vi x12)], []⟩
theorem qEg (E : Env 0) (a2 : Box) (v3 : (List Slice)) : ∀ (n : Nat) (x5 : Int) (x6 : Int) (res : Int), JV a2 v3 n x5 x6 = some res → HL (kx E 58 0) (nd Tryz.f101 500) (zW 0 (fun o => qAi o) res) n (NT a2 v3 x5 x6) := by
 intro n
 induction n with
 | zero =>
  intro x5 x6 res hm
  cases hm
 | succ n ih =>
  intro x5 x6 res hm
  refine qN ?_
  refine q_sq ?_
  refine q_sq ?_
  refine q_vu [] 2 [] [(32, vb (decide (x6 < ((v3.length : Nat) : Int))))] [] [] ?_
  refine q_cn (decide (x6 < ((v3.length : Nat) : Int))) (fun b7 => ?_) (fun b7 => ?_)
  ·replace hm := qC b7 hm
   refine q_sk ?_
   refine q_sq ?_
   refine q_bk 1 ?_
   refine q_sq ?_
   obtain ⟨g8, hm⟩ := qI hm
   obtain ⟨v9, h10, hm⟩ := qD hm
   refine q_du [qd 2 (Dir.none) (inb_of g8), qd 4 (Dir.none) (toNat_lt (inb_of g8)), qc 10 [39, 44] 2 (qAK ((v3.getD x6.toNat default).Sec) (Rect.mk a2.X a2.Y) v9 h10)] [0, 0, 3, 7, 15, 0, 32, 0, 128, 480, 1023, 2047] 2 [32] [(9, vi v9)] [] [] ?_
   obtain ⟨g11, hm⟩ := qI hm
   refine q_vu [qd 9 (Dir.none) (qIX g11)] 2 [7, 9] [(7, vi (imax x5 (w64 (Int.tdiv (w64 ((w64 ((w64 (1000 * (w64 ((w64 ((w64 (a2.X.B - a2.X.A)) * (w64 (a2.Y.B - a2.Y.A)))) - v9)))) + (w64 ((w64 (a2.X.B - a2.X.A)) * (w64 (a2.Y.B - a2.Y.A)))))) - 1)) (w64 ((w64 (a2.X.B - a2.X.A)) * (w64 (a2.Y.B - a2.Y.A))))))))] [] [] ?_
   refine q_vu [] 2 [8] [(8, vi (w64 (x6 + 1)))] [] [] ?_
   exact q_hl (NT a2 v3 (imax x5 (w64 (Int.tdiv (w64 ((w64 ((w64 (1000 * (w64 ((w64 ((w64 (a2.X.B - a2.X.A)) * (w64 (a2.Y.B - a2.Y.A)))) - v9)))) + (w64 ((w64 (a2.X.B - a2.X.A)) * (w64 (a2.Y.B - a2.Y.A)))))) - 1)) (w64 ((w64 (a2.X.B - a2.X.A)) * (w64 (a2.Y.B - a2.Y.A))))))) (w64 (x6 + 1))) (ih (imax x5 (w64 (Int.tdiv (w64 ((w64 ((w64 (1000 * (w64 ((w64 ((w64 (a2.X.B - a2.X.A)) * (w64 (a2.Y.B - a2.Y.A)))) - v9)))) + (w64 ((w64 (a2.X.B - a2.X.A)) * (w64 (a2.Y.B - a2.Y.A)))))) - 1)) (w64 ((w64 (a2.X.B - a2.X.A)) * (w64 (a2.Y.B - a2.Y.A))))))) (w64 (x6 + 1)) _ hm)
  ·replace hm := qB b7 hm
   refine q_ex 0 ?_
   obtain rfl := Option.some.inj hm
   exact wE (by kernel_rfl) (by kernel_rfl)
theorem qIc (a1 : List Slice) (a2 : Box) (r : Int) (hm : LB a1 a2 = some r) : CtX Tryz.prog globs 101 0 0 [.one (tl qF default a1), .agg (zA a2)] [] (qJA r) (qJ0 r) := by
 unfold LB at hm
 refine q_E Tryz.f101 58 fun E => ?_
 refine q_sq ?_
 refine q_vn [] 0 ⟨[(0, vc (tl qF default a1)), (3, vp 0 0)], [(0, bx 108 (zA a2))]⟩ ?_
 refine q_sq ?_
 obtain ⟨v3, h4, hm⟩ := qD hm
 refine q_vu [qc 3 [10, 12] 1 (qJ4 a1 a2.Z v3 h4)] 1 [0] [(5, vo 1 0 3 v3.length)] [] [(1, ro 0 56 3 v3.length (rf qF v3))] ?_
 refine q_sq ?_
 refine q_vu [] 2 [] [(6, vi (w64 ((w64 (a2.X.B - a2.X.A)) * (w64 (a2.Y.B - a2.Y.A)))))] [] [] ?_
 refine q_sq ?_
 refine q_vu [] 2 [] [(7, vi 0)] [] [] ?_
 refine q_sq ?_
 refine q_sq ?_
 refine q_vu [] 2 [] [(8, vi 0)] [] [] ?_
 obtain ⟨o13, h14, hm⟩ := qD hm
 refine zM (nd Tryz.f101 500) 0 (by kernel_rfl) FUEL (fun o => qAi o) o13 (q_hl (NT a2 v3 0 0) (qEg E a2 v3 FUEL 0 0 o13 h14)) ?_
 refine q_sq ?_
 refine q_vn [] 2 ⟨[(4, vi o13)], []⟩ ?_
 obtain rfl := Option.some.inj hm
 refine q_rt ?_
 exact q_rm
set_option maxRecDepth 100000
def MO (r : Bool) : V := vb r
def MU (r : Bool) : List (Nat × (Nat × O)) := []
def AF (a1 : List Slice) (a2 : List Defect) (a3 : qA) (a4 : Box) (x19 : Int) (x25 : Bool) : St :=
 ⟨[(0, vc (tl qF default a1)), (1, vc (tl qG default a2)), (6, vp 0 0), (7, vp 1 0), (15, vi x19), (94, vb x25)], [(0, bx 58 (qE a3)), (1, bx 108 (zA a4))]⟩
def VQ (a1 : List Slice) (a2 : List Defect) (a3 : qA) (a4 : Box) (x19 : Int) : St :=
 ⟨[(0, vc (tl qF default a1)), (1, vc (tl qG default a2)), (6, vp 0 0), (7, vp 1 0), (15, vi x19)], [(0, bx 58 (qE a3)), (1, bx 108 (zA a4))]⟩
def AQ (a1 : List Slice) (a3 : qA) (a4 : Box) : St :=
 ⟨[(0, vc (tl qF default a1)), (6, vp 0 0), (7, vp 1 0)], [(0, bx 58 (qE a3)), (1, bx 108 (zA a4))]⟩
def AC (a1 : List Slice) (a2 : List Defect) (a3 : qA) (a4 : Box) (x17 : Bool) : St :=
 ⟨[(0, vc (tl qF default a1)), (1, vc (tl qG default a2)), (6, vp 0 0), (7, vp 1 0), (74, vb x17)], [(0, bx 58 (qE a3)), (1, bx 108 (zA a4))]⟩
theorem qCV (E : Env 0) (a1 : List Slice) (a2 : List Defect) (a3 : qA) (a4 : Box) : ∀ (n : Nat) (x19 : Int) (res : Bool ⊕ Unit), wZ a2 a4 n x19 = some res → HL (kx E 101 0) (nd Tryz.f69 2036) (zZ 0 (fun o => AQ a1 a3 a4) (fun v st => RetQ Tryz.prog Tryz.f69 (MO v) (MU v) .ret st) res) n (VQ a1 a2 a3 a4 x19) := by
 intro n
 induction n with
 | zero =>
  intro x19 res hm
  cases hm
 | succ n ih =>
  intro x19 res hm
  refine qN ?_
  refine q_sq ?_
  refine q_sq ?_
  refine q_vu [] 2 [] [(78, vb (decide (x19 < ((a2.length : Nat) : Int))))] [] [] ?_
  refine q_cn (decide (x19 < ((a2.length : Nat) : Int))) (fun b20 => ?_) (fun b20 => ?_)
  ·replace hm := qC b20 hm
   refine q_sk ?_
   refine q_sq ?_
   refine q_bk 1 ?_
   refine q_jn (ι := Bool) (fun p => AF a1 a2 a3 a4 x19 p) (fun p => RO x19 (wZ a2 a4 n) p = some res) ?_ ?_
   ·rintro x25 hm
    show H _ (AF a1 a2 a3 a4 x19 x25) _ _
    refine q_cn x25 (fun b26 => ?_) (fun b26 => ?_)
    ·replace hm := qC b26 hm
     refine q_sq ?_
     refine q_vn [] 2 ⟨[(8, vb false)], []⟩ ?_
     obtain rfl := Option.some.inj hm
     refine q_rt ?_
     refine qR false ?_
     exact q_rm
    ·replace hm := qB b26 hm
     refine q_sk ?_
     refine q_vu [] 2 [15, 94] [(15, vi (w64 (x19 + 1)))] [] [] ?_
     exact q_hl (VQ a1 a2 a3 a4 (w64 (x19 + 1))) (ih (w64 (x19 + 1)) _ hm)
   ·obtain ⟨g21, hm⟩ := qI hm
    rcases Bool.eq_false_or_eq_true (((a2.getD x19.toNat default).Kind) == 3) with b22 | b22
    ·replace hm := qC b22 hm
     obtain ⟨v23, h24, hm⟩ := qD hm
     refine q_du [qd 2 (Dir.none) (inb_of g21), qf 6 b22, qd 9 (Dir.none) (inb_of g21), qk 12 [87, 91, 92] 2 ⟨[(87, vb true), (91, va [ci ((a2.getD x19.toNat default).Kind), ci ((((a2.getD x19.toNat default).Box).X).A), ci ((((a2.getD x19.toNat default).Box).X).B), ci ((((a2.getD x19.toNat default).Box).Y).A), ci ((((a2.getD x19.toNat default).Box).Y).B), ci ((((a2.getD x19.toNat default).Box).Z).A), ci ((((a2.getD x19.toNat default).Box).Z).B)]), (92, va (zA a4))], []⟩ (CO (a2.getD x19.toNat default) a4 v23 h24)] [0, 0, 3, 7, 15, 31, 63, 127, 127, 511, 1023, 127, 4095, 8191] 2 [78] [(88, vc (tl qG default a2)), (89, vi x19), (90, vc (.lptr (qG (a2.getD x19.toNat default)))), (91, va [ci ((a2.getD x19.toNat default).Kind), ci ((((a2.getD x19.toNat default).Box).X).A), ci ((((a2.getD x19.toNat default).Box).X).B), ci ((((a2.getD x19.toNat default).Box).Y).A), ci ((((a2.getD x19.toNat default).Box).Y).B), ci ((((a2.getD x19.toNat default).Box).Z).A), ci ((((a2.getD x19.toNat default).Box).Z).B)]), (92, va (zA a4)), (93, vb v23), (94, vb v23)] [] [] ?_
     exact q_J (v23) hm
    ·replace hm := qB b22 hm
     refine q_du [qd 2 (Dir.none) (inb_of g21), qf 6 b22] [0, 0, 3, 7, 15, 31, 63, 127, 127, 511, 1023, 127, 4095, 8191] 2 [78] [(94, vb false)] [] [] ?_
     exact q_J (false) hm
  ·replace hm := qB b20 hm
   refine q_ex 0 ?_
   obtain rfl := Option.some.inj hm
   exact wC () (by kernel_rfl) (by kernel_rfl)
theorem qFC (a1 : List Slice) (a2 : List Defect) (a3 : qA) (a4 : Box) (r : Bool) (hm : RR a1 a2 a3 a4 = some r) : CtX Tryz.prog globs 69 0 0 [.one (tl qF default a1), .one (tl qG default a2), .agg (qE a3), .agg (zA a4)] [] (MO r) (MU r) := by
 unfold RR at hm
 refine q_E Tryz.f69 101 fun E => ?_
 refine q_sq ?_
 refine q_vn [] 0 ⟨[(0, vc (tl qF default a1)), (1, vc (tl qG default a2)), (6, vp 0 0), (7, vp 1 0)], [(0, bx 58 (qE a3)), (1, bx 108 (zA a4))]⟩ ?_
 refine q_sq ?_
 refine q_sq ?_
 obtain ⟨v5, h6, hm⟩ := qD hm
 refine q_vu [qc 2 [16, 17] 2 (qEZ a1 a4 v5 h6)] 2 [] [(19, vb (!v5))] [] [] ?_
 refine q_cn (!v5) (fun b7 => ?_) (fun b7 => ?_)
 ·replace hm := qC b7 hm
  refine q_sq ?_
  refine q_vn [] 2 ⟨[(8, vb false)], []⟩ ?_
  obtain rfl := Option.some.inj hm
  refine q_rt ?_
  exact q_rm
 ·replace hm := qB b7 hm
  refine q_sk ?_
  refine q_sq ?_
  refine q_du [] [0, 1, 3, 0, 8, 24, 63, 0, 128, 384, 0, 1024, 3072, 8064, 127, 32767] 2 [19] [(9, vi (w64 (a4.X.B - a4.X.A))), (10, vi (w64 (a4.Y.B - a4.Y.A)))] [] [] ?_
  refine q_sq ?_
  obtain ⟨v8, h9, hm⟩ := qD hm
  refine q_vu [qc 1 [35] 2 (MN a3 v8 h9)] 2 [] [(11, vi v8.1), (12, vi v8.2)] [] [] ?_
  refine q_sq ?_
  obtain ⟨v10, h11, hm⟩ := qD hm
  refine q_vu [qc 8 [40, 47] 2 (qBy a3 (w64 (a4.Z.B - a4.Z.A)) v10 h11)] 2 [] [(14, vb v10.2)] [] [] ?_
  refine q_sq ?_
  refine q_jn (ι := Bool) (fun p => AC a1 a2 a3 a4 p) (fun p => wB a1 a2 a3 a4 p = some r) ?_ ?_
  ·rintro x17 hm
   show H _ (AC a1 a2 a3 a4 x17) _ _
   refine q_cn x17 (fun b18 => ?_) (fun b18 => ?_)
   ·replace hm := qC b18 hm
    refine q_sq ?_
    refine q_vn [] 2 ⟨[(8, vb false)], []⟩ ?_
    obtain rfl := Option.some.inj hm
    refine q_rt ?_
    exact q_rm
   ·replace hm := qB b18 hm
    refine q_sk ?_
    refine q_sq ?_
    refine q_sq ?_
    refine q_vu [] 2 [74] [(15, vi 0)] [] [] ?_
    obtain ⟨u29, h28, hm⟩ := qD hm
    refine zH (nd Tryz.f69 2036) 0 (by kernel_rfl) FUEL (fun o => AQ a1 a3 a4) (fun v st => RetQ Tryz.prog Tryz.f69 (MO v) (MU v) .ret st) u29 (q_hl (VQ a1 a2 a3 a4 0) (qCV E a1 a2 a3 a4 FUEL 0 u29 h28)) ?_ ?_
    ·rintro v30 rfl st hr
     obtain rfl := Option.some.inj hm
     exact hr
    ·rintro o27 rfl
     replace hm : _ = some r := hm
     refine q_sq ?_
     obtain ⟨v31, h32, hm⟩ := qD hm
     refine q_dn [qc 2 [95, 96] 2 (qIc a1 a4 v31 h32)] [0, 0, 3, 0, 8, 31, 63] 2 ⟨[(8, vb (decide (v31 ≤ a3.Wane)))], []⟩ ?_
     obtain rfl := Option.some.inj hm
     refine q_rt ?_
     exact q_rm
  ·rcases Bool.eq_false_or_eq_true (!v10.2) with b12 | b12
   ·replace hm := qC b12 hm
    refine q_vu [qf 2 b12] 2 [9, 10, 11, 12, 14] [(74, vb true)] [] [] ?_
    exact q_J (true) hm
   ·replace hm := qB b12 hm
    rcases Bool.eq_false_or_eq_true ((w64 (a4.X.B - a4.X.A)) == v8.1) with b13 | b13
    ·replace hm := qC b13 hm
     rcases Bool.eq_false_or_eq_true (!((w64 (a4.Y.B - a4.Y.A)) == v8.2)) with b14 | b14
     ·replace hm := qC b14 hm
      rcases Bool.eq_false_or_eq_true ((w64 (a4.X.B - a4.X.A)) == v8.2) with b15 | b15
      ·replace hm := qC b15 hm
       refine q_vu [qf 2 b12, qf 6 b13, qf 12 b14, qf 16 b15] 2 [9, 10, 11, 12, 14] [(74, vb (!((w64 (a4.Y.B - a4.Y.A)) == v8.1)))] [] [] ?_
       exact q_J (!((w64 (a4.Y.B - a4.Y.A)) == v8.1)) hm
      ·replace hm := qB b15 hm
       refine q_vu [qf 2 b12, qf 6 b13, qf 12 b14, qf 16 b15] 2 [9, 10, 11, 12, 14] [(74, vb true)] [] [] ?_
       exact q_J (true) hm
     ·replace hm := qB b14 hm
      refine q_vu [qf 2 b12, qf 6 b13, qf 12 b14] 2 [9, 10, 11, 12, 14] [(74, vb false)] [] [] ?_
      exact q_J (false) hm
    ·replace hm := qB b13 hm
     rcases Bool.eq_false_or_eq_true ((w64 (a4.X.B - a4.X.A)) == v8.2) with b16 | b16
     ·replace hm := qC b16 hm
      refine q_vu [qf 2 b12, qf 6 b13, qf 16 b16] 2 [9, 10, 11, 12, 14] [(74, vb (!((w64 (a4.Y.B - a4.Y.A)) == v8.1)))] [] [] ?_
      exact q_J (!((w64 (a4.Y.B - a4.Y.A)) == v8.1)) hm
     ·replace hm := qB b16 hm
      refine q_vu [qf 2 b12, qf 6 b13, qf 16 b16] 2 [9, 10, 11, 12, 14] [(74, vb true)] [] [] ?_
      exact q_J (true) hm
open Go.Proofs
set_option maxHeartbeats 4000000
set_option maxRecDepth 100000
def qIb (r : Int) : V := vi r
def qIu (r : Int) : List (Nat × (Nat × O)) := []
def CK (a1 : List Defect) (a3 : Box) (a4 : Int) (x8 : Int) (x14 : Int) : St :=
 ⟨[(0, vc (tl qG default a1)), (3, vi a4), (6, vp 1 0), (9, vi x14), (11, vi x8)], [(1, bx 108 (zA a3))]⟩
def BW (a1 : List Defect) (a3 : Box) (a4 : Int) (x7 : Int) (x8 : Int) : St :=
 ⟨[(0, vc (tl qG default a1)), (3, vi a4), (6, vp 1 0), (9, vi x7), (11, vi x8)], [(1, bx 108 (zA a3))]⟩
def qAe (x15 : Int) : St :=
 ⟨[(9, vi x15)], []⟩
theorem qDI (E : Env 0) (a1 : List Defect) (a3 : Box) (a4 : Int) : ∀ (n : Nat) (x7 : Int) (x8 : Int) (res : Int), yL a1 a3 a4 n x7 x8 = some res → HL (kx E 41 0) (nd Tryz.f70 116) (zW 0 (fun o => qAe o) res) n (BW a1 a3 a4 x7 x8) := by
 intro n
 induction n with
 | zero =>
  intro x7 x8 res hm
  cases hm
 | succ n ih =>
  intro x7 x8 res hm
  refine qN ?_
  refine q_sq ?_
  refine q_sq ?_
  refine q_vu [] 2 [] [(27, vb (decide (x8 < ((a1.length : Nat) : Int))))] [] [] ?_
  refine q_cn (decide (x8 < ((a1.length : Nat) : Int))) (fun b9 => ?_) (fun b9 => ?_)
  ·replace hm := qC b9 hm
   refine q_sk ?_
   refine q_jn (ι := Int) (fun p => CK a1 a3 a4 x8 p) (fun p => UJ x8 (yL a1 a3 a4 n) p = some res) ?_ ?_
   ·rintro x14 hm
    show H _ (CK a1 a3 a4 x8 x14) _ _
    refine q_vu [] 2 [11] [(11, vi (w64 (x8 + 1)))] [] [] ?_
    exact q_hl (BW a1 a3 a4 x14 (w64 (x8 + 1))) (ih x14 (w64 (x8 + 1)) _ hm)
   ·refine q_bk 1 ?_
    refine q_sq ?_
    obtain ⟨g10, hm⟩ := qI hm
    obtain ⟨v11, h12, hm⟩ := qD hm
    refine q_du [qd 2 (Dir.none) (inb_of g10), qc 5 [33, 34] 2 (CO (a1.getD x8.toNat default) a3 v11 h12)] [0, 0, 3, 7, 0, 31] 2 [27] [(35, vb v11)] [] [] ?_
    refine q_cn v11 (fun b13 => ?_) (fun b13 => ?_)
    ·replace hm := qC b13 hm
     refine q_vu [] 2 [9, 35] [(9, vi (w64 (x7 - a4)))] [] [] ?_
     exact q_J (w64 (x7 - a4)) hm
    ·replace hm := qB b13 hm
     refine q_sk ?_
     exact q_J (x7) hm
  ·replace hm := qB b9 hm
   refine q_ex 0 ?_
   obtain rfl := Option.some.inj hm
   exact wE (by kernel_rfl) (by kernel_rfl)
theorem qGr (a1 : List Defect) (a2 : qA) (a3 : Box) (a4 : Int) (r : Int) (hm : GM a1 a2 a3 a4 = some r) : CtX Tryz.prog globs 70 0 0 [.one (tl qG default a1), .agg (qE a2), .agg (zA a3), .one (ci a4)] [] (qIb r) (qIu r) := by
 unfold GM at hm
 refine q_E Tryz.f70 41 fun E => ?_
 refine q_sq ?_
 refine q_vn [] 0 ⟨[(0, vc (tl qG default a1)), (3, vi a4), (5, vp 0 0), (6, vp 1 0)], [(0, bx 58 (qE a2)), (1, bx 108 (zA a3))]⟩ ?_
 refine q_sq ?_
 obtain ⟨v5, h6, hm⟩ := qD hm
 refine q_vu [qc 8 [13, 20] 2 (qBy a2 (w64 (a3.Z.B - a3.Z.A)) v5 h6)] 2 [5] [(9, vi v5.1)] [0] [] ?_
 refine q_sq ?_
 refine q_sq ?_
 refine q_vu [] 2 [] [(11, vi 0)] [] [] ?_
 obtain ⟨o16, h17, hm⟩ := qD hm
 refine zM (nd Tryz.f70 116) 0 (by kernel_rfl) FUEL (fun o => qAe o) o16 (q_hl (BW a1 a3 a4 v5.1 0) (qDI E a1 a3 a4 FUEL v5.1 0 o16 h17)) ?_
 refine q_sq ?_
 refine q_vn [] 2 ⟨[(8, vi (imax 0 o16))], []⟩ ?_
 obtain rfl := Option.some.inj hm
 refine q_rt ?_
 exact q_rm
def qJX (r : Bool) : V := vb r
def qJ3 (r : Bool) : List (Nat × (Nat × O)) := []
def qA5 (x5 : Bool) : St :=
 ⟨[(6, vb x5)], []⟩
theorem qZ (a1 : Int) (a2 : Int) (a3 : Int) (r : Bool) (hm : jK a1 a2 a3 = some r) : CtX Tryz.prog globs 66 0 0 [.one (ci a1), .one (ci a2), .one (ci a3)] [] (qJX r) (qJ3 r) := by
 unfold jK at hm
 refine q_E Tryz.f66 15 fun E => ?_
 refine q_sq ?_
 refine q_vn [] 0 ⟨[(0, vi a1), (1, vi a2), (2, vi a3)], []⟩ ?_
 refine q_jn (ι := Bool) (fun p => qA5 p) (fun p => DH p = some r) ?_ ?_
 ·rintro x5 hm
  show H _ (qA5 x5) _ _
  obtain rfl := Option.some.inj hm
  refine q_rt ?_
  exact q_rm
 ·rcases Bool.eq_false_or_eq_true (decide (a1 ≥ a2)) with b4 | b4
  ·replace hm := qC b4 hm
   refine q_vn [qf 3 b4] 0 ⟨[(6, vb (decide (a1 ≤ a3)))], []⟩ ?_
   exact q_J (decide (a1 ≤ a3)) hm
  ·replace hm := qB b4 hm
   refine q_vn [qf 3 b4] 0 ⟨[(6, vb false)], []⟩ ?_
   exact q_J (false) hm
set_option maxRecDepth 100000
def qLM (r : Bool) : V := vb r
def qLC (r : Bool) : List (Nat × (Nat × O)) := []
def qCf (x5 : Bool) : St :=
 ⟨[(6, vb x5)], []⟩
theorem PQ (a1 : Span) (a2 : Int) (a3 : Int) (r : Bool) (hm : BJ a1 a2 a3 = some r) : CtX Tryz.prog globs 96 0 0 [.agg (e_Span a1), .one (ci a2), .one (ci a3)] [] (qLM r) (qLC r) := by
 unfold BJ at hm
 refine q_E Tryz.f96 17 fun E => ?_
 refine q_sq ?_
 refine q_vn [] 0 ⟨[(1, vi a2), (2, vi a3), (3, vp 0 0)], [(0, bx 26 (e_Span a1))]⟩ ?_
 refine q_jn (ι := Bool) (fun p => qCf p) (fun p => MX p = some r) ?_ ?_
 ·rintro x5 hm
  show H _ (qCf x5) _ _
  obtain rfl := Option.some.inj hm
  refine q_rt ?_
  exact q_rm
 ·rcases Bool.eq_false_or_eq_true (decide (a2 ≤ a1.A)) with b4 | b4
  ·replace hm := qC b4 hm
   refine q_vn [qf 4 b4] 1 ⟨[(6, vb (decide (a1.B ≤ a3)))], []⟩ ?_
   exact q_J (decide (a1.B ≤ a3)) hm
  ·replace hm := qB b4 hm
   refine q_vn [qf 4 b4] 1 ⟨[(6, vb false)], []⟩ ?_
   exact q_J (false) hm
open Go.Proofs
set_option maxHeartbeats 4000000
set_option maxRecDepth 100000
def qGe (r : Bool) : V := vb r
def qGR (r : Bool) : List (Nat × (Nat × O)) := []
def AN (x10 : Bool) : St :=
 ⟨[(2, vb x10)], []⟩
theorem qF0 (a1 : Box) (r : Bool) (hm : RU a1 = some r) : CtX Tryz.prog globs 63 0 0 [.agg (zA a1)] [] (qGe r) (qGR r) := by
 unfold RU at hm
 refine q_E Tryz.f63 16 fun E => ?_
 refine q_sq ?_
 refine q_vn [] 0 ⟨[(1, vp 0 0)], [(0, bx 108 (zA a1))]⟩ ?_
 refine q_jn (ι := Bool) (fun p => AN p) (fun p => YP p = some r) ?_ ?_
 ·rintro x10 hm
  show H _ (AN x10) _ _
  obtain rfl := Option.some.inj hm
  refine q_rt ?_
  exact q_rm
 ·obtain ⟨v2, h3, hm⟩ := qD hm
  rcases Bool.eq_false_or_eq_true v2 with b4 | b4
  ·replace hm := qC b4 hm
   obtain ⟨v5, h6, hm⟩ := qD hm
   rcases Bool.eq_false_or_eq_true v5 with b7 | b7
   ·replace hm := qC b7 hm
    obtain ⟨v8, h9, hm⟩ := qD hm
    refine q_vn [qk 2 [4] 1 ⟨[(4, va (e_Span a1.X))], []⟩ (PQ a1.X (-600) 600 v2 h3), qf 3 b4, qk 6 [6, 8] 1 ⟨[(6, vb true), (8, va (e_Span a1.Y))], []⟩ (PQ a1.Y (-600) 600 v5 h6), qf 8 b7, qk 11 [11, 13] 1 ⟨[(11, vb true), (13, va (e_Span a1.Z))], []⟩ (PQ a1.Z 0 20000 v8 h9)] 1 ⟨[(2, vb v8)], []⟩ ?_
    exact q_J (v8) hm
   ·replace hm := qB b7 hm
    refine q_vn [qk 2 [4] 1 ⟨[(4, va (e_Span a1.X))], []⟩ (PQ a1.X (-600) 600 v2 h3), qf 3 b4, qk 6 [6, 8] 1 ⟨[(6, vb true), (8, va (e_Span a1.Y))], []⟩ (PQ a1.Y (-600) 600 v5 h6), qf 8 b7] 1 ⟨[(2, vb false)], []⟩ ?_
    exact q_J (false) hm
  ·replace hm := qB b4 hm
   refine q_vn [qk 2 [4] 1 ⟨[(4, va (e_Span a1.X))], []⟩ (PQ a1.X (-600) 600 v2 h3), qf 3 b4] 1 ⟨[(2, vb false)], []⟩ ?_
   exact q_J (false) hm
def SX (r : Int) : V := vi r
def EB (r : Int) : List (Nat × (Nat × O)) := []
def CM (a1 : List Defect) (x3 : Int) (x7 : Bool) : St :=
 ⟨[(0, vc (tl qG default a1)), (3, vi x3), (13, vb x7)], []⟩
def BQ (a1 : List Defect) (x3 : Int) : St :=
 ⟨[(0, vc (tl qG default a1)), (3, vi x3)], []⟩
def OY : St :=
 ⟨[], []⟩
theorem qDM (E : Env 0) (a1 : List Defect) : ∀ (n : Nat) (x3 : Int) (res : Int ⊕ Unit), jJ a1 n x3 = some res → HL (kx E 43 0) (nd Tryz.f36 116) (zZ 0 (fun o => OY) (fun v st => RetQ Tryz.prog Tryz.f36 (SX v) (EB v) .ret st) res) n (BQ a1 x3) := by
 intro n
 induction n with
 | zero =>
  intro x3 res hm
  cases hm
 | succ n ih =>
  intro x3 res hm
  refine qN ?_
  refine q_sq ?_
  refine q_sq ?_
  refine q_vu [] 0 [] [(10, vb (decide (x3 < ((a1.length : Nat) : Int))))] [] [] ?_
  refine q_cn (decide (x3 < ((a1.length : Nat) : Int))) (fun b4 => ?_) (fun b4 => ?_)
  ·replace hm := qC b4 hm
   refine q_sk ?_
   refine q_sq ?_
   refine q_bk 1 ?_
   refine q_bk 2 ?_
   refine q_jn (ι := Bool) (fun p => CM a1 x3 p) (fun p => UC a1 x3 (jJ a1 n) p = some res) ?_ ?_
   ·rintro x7 hm
    show H _ (CM a1 x3 x7) _ _
    refine q_cn x7 (fun b8 => ?_) (fun b8 => ?_)
    ·replace hm := qC b8 hm
     refine q_sq ?_
     refine q_vn [] 0 ⟨[(2, vi 10)], []⟩ ?_
     obtain rfl := Option.some.inj hm
     refine q_rt ?_
     refine qR 10 ?_
     exact q_rm
    ·replace hm := qB b8 hm
     refine q_sq ?_
     obtain ⟨g9, hm⟩ := qI hm
     obtain ⟨v10, h11, hm⟩ := qD hm
     refine q_vu [qd 2 (Dir.none) (inb_of g9), qc 5 [33] 0 (qBA ((a1.getD x3.toNat default).Box) v10 h11)] 0 [13] [(28, vb v10)] [] [] ?_
     refine q_cn v10 (fun b12 => ?_) (fun b12 => ?_)
     ·replace hm := qC b12 hm
      refine q_sq ?_
      refine q_vn [] 0 ⟨[(2, vi 19)], []⟩ ?_
      obtain rfl := Option.some.inj hm
      refine q_rt ?_
      refine qR 19 ?_
      exact q_rm
     ·replace hm := qB b12 hm
      refine q_sq ?_
      obtain ⟨v13, h14, hm⟩ := qD hm
      refine q_vu [qd 2 (Dir.none) (inb_of g9), qc 5 [40] 0 (qF0 ((a1.getD x3.toNat default).Box) v13 h14)] 0 [28] [(35, vb (!v13))] [] [] ?_
      refine q_cn (!v13) (fun b15 => ?_) (fun b15 => ?_)
      ·replace hm := qC b15 hm
       refine q_sq ?_
       refine q_vn [] 0 ⟨[(2, vi 9)], []⟩ ?_
       obtain rfl := Option.some.inj hm
       refine q_rt ?_
       refine qR 9 ?_
       exact q_rm
      ·replace hm := qB b15 hm
       refine q_sk ?_
       refine q_vu [] 0 [3, 35] [(3, vi (w64 (x3 + 1)))] [] [] ?_
       exact q_hl (BQ a1 (w64 (x3 + 1))) (ih (w64 (x3 + 1)) _ hm)
   ·obtain ⟨g5, hm⟩ := qI hm
    rcases Bool.eq_false_or_eq_true (decide (((a1.getD x3.toNat default).Kind) < 1)) with b6 | b6
    ·replace hm := qC b6 hm
     refine q_vu [qd 2 (Dir.none) (inb_of g5), qf 6 b6] 0 [10] [(13, vb true)] [] [] ?_
     exact q_J (true) hm
    ·replace hm := qB b6 hm
     refine q_vu [qd 2 (Dir.none) (inb_of g5), qf 6 b6, qd 9 (Dir.none) (inb_of g5)] 0 [10] [(13, vb (decide (((a1.getD x3.toNat default).Kind) > 6))), (21, vc (tl qG default a1)), (22, vi x3), (23, vc (.lptr (qG (a1.getD x3.toNat default)))), (24, vc (.lptr (qG (a1.getD x3.toNat default)))), (25, vi ((a1.getD x3.toNat default).Kind)), (26, vb (decide (((a1.getD x3.toNat default).Kind) > 6)))] [] [] ?_
     exact q_J (decide (((a1.getD x3.toNat default).Kind) > 6)) hm
  ·replace hm := qB b4 hm
   refine q_ex 0 ?_
   obtain rfl := Option.some.inj hm
   exact wC () (by kernel_rfl) (by kernel_rfl)
theorem MP (a1 : List Defect) (r : Int) (hm : PM a1 = some r) : CtX Tryz.prog globs 36 0 0 [.one (tl qG default a1)] [] (SX r) (EB r) := by
 unfold PM at hm
 refine q_E Tryz.f36 43 fun E => ?_
 refine q_sq ?_
 refine q_vn [] 0 ⟨[(0, vc (tl qG default a1))], []⟩ ?_
 refine q_sq ?_
 refine q_sq ?_
 refine q_vu [] 0 [] [(6, vb (decide (((a1.length : Nat) : Int) > 64)))] [] [] ?_
 refine q_cn (decide (((a1.length : Nat) : Int) > 64)) (fun b2 => ?_) (fun b2 => ?_)
 ·replace hm := qC b2 hm
  refine q_sq ?_
  refine q_vn [] 0 ⟨[(2, vi 4)], []⟩ ?_
  obtain rfl := Option.some.inj hm
  refine q_rt ?_
  exact q_rm
 ·replace hm := qB b2 hm
  refine q_sk ?_
  refine q_sq ?_
  refine q_sq ?_
  refine q_vu [] 0 [6] [(3, vi 0)] [] [] ?_
  obtain ⟨u18, h17, hm⟩ := qD hm
  refine zH (nd Tryz.f36 116) 0 (by kernel_rfl) FUEL (fun o => OY) (fun v st => RetQ Tryz.prog Tryz.f36 (SX v) (EB v) .ret st) u18 (q_hl (BQ a1 0) (qDM E a1 FUEL 0 u18 h17)) ?_ ?_
  ·rintro v19 rfl st hr
   obtain rfl := Option.some.inj hm
   exact hr
  ·rintro o16 rfl
   replace hm : _ = some r := hm
   refine q_sq ?_
   refine q_vn [] 0 ⟨[(2, vi 0)], []⟩ ?_
   obtain rfl := Option.some.inj hm
   refine q_rt ?_
   exact q_rm
set_option maxRecDepth 100000
def qIv (r : Bool) : V := vb r
def qIS (r : Bool) : List (Nat × (Nat × O)) := []
def CW (x3 : Bool) : St :=
 ⟨[(2, vb x3)], []⟩
theorem qF9 (a1 : Int) (r : Bool) (hm : GR a1 = some r) : CtX Tryz.prog globs 97 0 0 [.one (.val (.int .u8 a1))] [] (qIv r) (qIS r) := by
 unfold GR at hm
 refine q_E Tryz.f97 9 fun E => ?_
 refine q_sq ?_
 refine q_vn [] 0 ⟨[(0, vc (.val (.int .u8 a1)))], []⟩ ?_
 refine q_jn (ι := Bool) (fun p => CW p) (fun p => UN p = some r) ?_ ?_
 ·rintro x3 hm
  show H _ (CW x3) _ _
  obtain rfl := Option.some.inj hm
  refine q_rt ?_
  exact q_rm
 ·rcases Bool.eq_false_or_eq_true (decide (a1 ≥ 48)) with b2 | b2
  ·replace hm := qC b2 hm
   refine q_vn [qf 2 b2] 0 ⟨[(2, vb (decide (a1 ≤ 57)))], []⟩ ?_
   exact q_J (decide (a1 ≤ 57)) hm
  ·replace hm := qB b2 hm
   refine q_vn [qf 2 b2] 0 ⟨[(2, vb false)], []⟩ ?_
   exact q_J (false) hm
open Go.Proofs
set_option maxHeartbeats 4000000
set_option maxRecDepth 100000
def MB (r : Bool) : V := vb r
def LQ (r : Bool) : List (Nat × (Nat × O)) := []
def EX (a1 : ByteArray) (x5 : Int) (x16 : Bool) : St :=
 ⟨[(0, vc (cs a1)), (3, vi x5), (47, vb x16)], []⟩
def ES (a1 : ByteArray) (x5 : Int) (x9 : Bool) : St :=
 ⟨[(0, vc (cs a1)), (3, vi x5), (4, vb x9)], []⟩
def VI (a1 : ByteArray) (x5 : Int) : St :=
 ⟨[(0, vc (cs a1)), (3, vi x5)], []⟩
def AG : St :=
 ⟨[], []⟩
def AL (a1 : ByteArray) (x3 : Bool) : St :=
 ⟨[(0, vc (cs a1)), (12, vb x3)], []⟩
theorem qCW (E : Env 0) (a1 : ByteArray) : ∀ (n : Nat) (x5 : Int) (res : Bool ⊕ Unit), wJ a1 n x5 = some res → HL (kx E 48 0) (nd Tryz.f64 116) (zZ 0 (fun o => AG) (fun v st => RetQ Tryz.prog Tryz.f64 (MB v) (LQ v) .ret st) res) n (VI a1 x5) := by
 intro n
 induction n with
 | zero =>
  intro x5 res hm
  cases hm
 | succ n ih =>
  intro x5 res hm
  refine qN ?_
  refine q_sq ?_
  refine q_sq ?_
  refine q_vu [] 0 [] [(16, vb (decide (x5 < ((a1.size : Nat) : Int))))] [] [] ?_
  refine q_cn (decide (x5 < ((a1.size : Nat) : Int))) (fun b6 => ?_) (fun b6 => ?_)
  ·replace hm := qC b6 hm
   refine q_sk ?_
   refine q_sq ?_
   refine q_bk 1 ?_
   refine q_jn (ι := Bool) (fun p => ES a1 x5 p) (fun p => RE a1 x5 (wJ a1 n) p = some res) ?_ ?_
   ·rintro x9 hm
    show H _ (ES a1 x5 x9) _ _
    refine q_jn (ι := Bool) (fun p => EX a1 x5 p) (fun p => ZQ x5 (wJ a1 n) p = some res) ?_ ?_
    ·rintro x16 hm
     show H _ (EX a1 x5 x16) _ _
     refine q_cn x16 (fun b17 => ?_) (fun b17 => ?_)
     ·replace hm := qC b17 hm
      refine q_sq ?_
      refine q_vn [] 0 ⟨[(2, vb false)], []⟩ ?_
      obtain rfl := Option.some.inj hm
      refine q_rt ?_
      refine qR false ?_
      exact q_rm
     ·replace hm := qB b17 hm
      refine q_sk ?_
      refine q_vu [] 0 [3, 47] [(3, vi (w64 (x5 + 1)))] [] [] ?_
      exact q_hl (VI a1 (w64 (x5 + 1))) (ih (w64 (x5 + 1)) _ hm)
    ·rcases Bool.eq_false_or_eq_true (!x9) with b10 | b10
     ·replace hm := qC b10 hm
      rcases Bool.eq_false_or_eq_true (x5 == 0) with b11 | b11
      ·replace hm := qC b11 hm
       refine q_vu [qf 2 b10, qf 5 b11] 0 [4] [(32, vi x5), (33, vb (x5 == 0)), (34, vb true), (46, vb true), (47, vb true)] [] [] ?_
       exact q_J (true) hm
      ·replace hm := qB b11 hm
       obtain ⟨g12, hm⟩ := qI hm
       rcases Bool.eq_false_or_eq_true ((strAt a1 x5.toNat) != 95) with b13 | b13
       ·replace hm := qC b13 hm
        obtain ⟨v14, h15, hm⟩ := qD hm
        refine q_vu [qf 2 b10, qf 5 b11, qd 8 (Dir.none) (inb_of g12), qf 10 b13, qd 13 (Dir.none) (inb_of g12), qk 14 [39, 42] 0 ⟨[(39, vb true), (42, vc (.val (.int .u8 (strAt a1 x5.toNat))))], []⟩ (qF9 (strAt a1 x5.toNat) v14 h15)] 0 [4] [(32, vi x5), (33, vb (x5 == 0)), (34, vb false), (35, vc (cs a1)), (36, vi x5), (37, vc (.val (.int .u8 (strAt a1 x5.toNat)))), (38, vb ((strAt a1 x5.toNat) != 95)), (39, vb true), (40, vc (cs a1)), (41, vi x5), (42, vc (.val (.int .u8 (strAt a1 x5.toNat)))), (43, vb v14), (44, vb (!v14)), (45, vb (!v14)), (46, vb (!v14)), (47, vb (!v14))] [] [] ?_
        exact q_J (!v14) hm
       ·replace hm := qB b13 hm
        refine q_vu [qf 2 b10, qf 5 b11, qd 8 (Dir.none) (inb_of g12), qf 10 b13] 0 [4] [(32, vi x5), (33, vb (x5 == 0)), (34, vb false), (35, vc (cs a1)), (36, vi x5), (37, vc (.val (.int .u8 (strAt a1 x5.toNat)))), (38, vb ((strAt a1 x5.toNat) != 95)), (39, vb false), (45, vb false), (46, vb false), (47, vb false)] [] [] ?_
        exact q_J (false) hm
     ·replace hm := qB b10 hm
      refine q_vu [qf 2 b10] 0 [4] [(47, vb false)] [] [] ?_
      exact q_J (false) hm
   ·obtain ⟨g7, hm⟩ := qI hm
    rcases Bool.eq_false_or_eq_true (decide ((strAt a1 x5.toNat) ≥ 97)) with b8 | b8
    ·replace hm := qC b8 hm
     refine q_vu [qd 2 (Dir.none) (inb_of g7), qf 4 b8, qd 7 (Dir.none) (inb_of g7)] 0 [16] [(4, vb (decide ((strAt a1 x5.toNat) ≤ 122))), (24, vc (cs a1)), (25, vi x5), (26, vc (.val (.int .u8 (strAt a1 x5.toNat)))), (27, vb (decide ((strAt a1 x5.toNat) ≤ 122)))] [] [] ?_
     exact q_J (decide ((strAt a1 x5.toNat) ≤ 122)) hm
    ·replace hm := qB b8 hm
     refine q_vu [qd 2 (Dir.none) (inb_of g7), qf 4 b8] 0 [16] [(4, vb false)] [] [] ?_
     exact q_J (false) hm
  ·replace hm := qB b6 hm
   refine q_ex 0 ?_
   obtain rfl := Option.some.inj hm
   exact wC () (by kernel_rfl) (by kernel_rfl)
theorem qFe (a1 : ByteArray) (r : Bool) (hm : RS a1 = some r) : CtX Tryz.prog globs 64 0 0 [.one (cs a1)] [] (MB r) (LQ r) := by
 unfold RS at hm
 refine q_E Tryz.f64 48 fun E => ?_
 refine q_sq ?_
 refine q_vn [] 0 ⟨[(0, vc (cs a1))], []⟩ ?_
 refine q_sq ?_
 refine q_jn (ι := Bool) (fun p => AL a1 p) (fun p => RB a1 p = some r) ?_ ?_
 ·rintro x3 hm
  show H _ (AL a1 x3) _ _
  refine q_cn x3 (fun b4 => ?_) (fun b4 => ?_)
  ·replace hm := qC b4 hm
   refine q_sq ?_
   refine q_vn [] 0 ⟨[(2, vb false)], []⟩ ?_
   obtain rfl := Option.some.inj hm
   refine q_rt ?_
   exact q_rm
  ·replace hm := qB b4 hm
   refine q_sk ?_
   refine q_sq ?_
   refine q_sq ?_
   refine q_vu [] 0 [12] [(3, vi 0)] [] [] ?_
   obtain ⟨u20, h19, hm⟩ := qD hm
   refine zH (nd Tryz.f64 116) 0 (by kernel_rfl) FUEL (fun o => AG) (fun v st => RetQ Tryz.prog Tryz.f64 (MB v) (LQ v) .ret st) u20 (q_hl (VI a1 0) (qCW E a1 FUEL 0 u20 h19)) ?_ ?_
   ·rintro v21 rfl st hr
    obtain rfl := Option.some.inj hm
    exact hr
   ·rintro o18 rfl
    replace hm : _ = some r := hm
    refine q_sq ?_
    refine q_vn [] 0 ⟨[(2, vb true)], []⟩ ?_
    obtain rfl := Option.some.inj hm
    refine q_rt ?_
    exact q_rm
 ·rcases Bool.eq_false_or_eq_true (decide (((a1.size : Nat) : Int) < 1)) with b2 | b2
  ·replace hm := qC b2 hm
   refine q_vu [qf 3 b2] 0 [] [(12, vb true)] [] [] ?_
   exact q_J (true) hm
  ·replace hm := qB b2 hm
   refine q_vu [qf 3 b2] 0 [] [(12, vb (decide (((a1.size : Nat) : Int) > 16)))] [] [] ?_
   exact q_J (decide (((a1.size : Nat) : Int) > 16)) hm
end Saw
end Go.SL
