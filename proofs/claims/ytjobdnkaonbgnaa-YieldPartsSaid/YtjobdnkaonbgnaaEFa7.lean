import Derived.Test.YtjobdnkaonbgnaaEBase
import Derived.Test.YtjobdnkaonbgnaaEFa4
import Derived.Test.YtjobdnkaonbgnaaEFa2
import Derived.Test.YtjobdnkaonbgnaaEFa6
import Derived.Test.YtjobdnkaonbgnaaEFa1
import Derived.Test.YtjobdnkaonbgnaaEFa3
set_option linter.unusedVariables false
set_option linter.unusedSimpArgs false
namespace Go.SL
namespace Saw
open Go.Proofs
set_option maxHeartbeats 4000000
set_option maxRecDepth 100000
def qEU (r : (List Rect) × Int) : V := .tup [.one (.own 0 0 4 r.1.length), .one (ci r.2)]
def qD8 (r : (List Rect) × Int) : List (Nat × (Nat × O)) := [(0, ro 0 28 4 r.1.length (rf qK r.1))]
theorem qCS (a1 : Pattern) (a2 : Int) (r : (List Rect) × Int) (hm : TZ a1 a2 = some r) : CtX Try.prog globs 38 0 0 [.agg (qD a1), .one (ci a2)] [] (qEU r) (qD8 r) := by
 unfold TZ at hm
 refine q_E Try.f38 47 fun E => ?_
 refine q_sq ?_
 refine q_vn [] 0 ⟨[(2, vp 0 0), (3, vp 1 0)], [(0, bx 31 (qD a1)), (1, bx 3 [ci a2])]⟩ ?_
 refine q_sq ?_
 refine q_sq ?_
 obtain ⟨v3, h4, hm⟩ := qC hm
 refine q_vu [qk 2 [14, 15] 2 ⟨[(14, va (qD a1)), (15, vi a2)], []⟩ (NS a1 a2 v3 h4)] 2 [] [(6, vi v3)] [] [] ?_
 refine q_sq ?_
 refine q_vu [] 2 [] [(18, vb (v3 != 0))] [] [] ?_
 refine q_cn (v3 != 0) (fun b5 => ?_) (fun b5 => ?_)
 ·replace hm := qA b5 hm
  refine q_sq ?_
  refine q_vn [] 2 ⟨[(4, vc (.emp)), (5, vi v3)], []⟩ ?_
  refine q_fn [.own 4 2 28 4 (rf qK ([] : List Rect))] ⟨[(4, vo 2 0 4 0), (5, vi v3)], [(2, ro 0 28 4 0 (rf qK ([] : List Rect)))]⟩ o0 ?_
  refine q_fn [.len 2 (([] : List Rect).length)] ⟨[(4, vo 2 0 4 (([] : List Rect).length)), (5, vi v3)], [(2, ro 0 28 4 (([] : List Rect).length) (rf qK ([] : List Rect)))]⟩ (o1 (And.intro (show 0 = ([] : List Rect).length from rfl) (show 0 = ([] : List Rect).length from rfl))) ?_
  obtain rfl := Option.some.inj hm
  refine jO 2 0 (by kernel_rfl) ?_
  refine q_rt ?_
  exact q_rm
 ·replace hm := qB b5 hm
  refine q_sk ?_
  refine q_sq ?_
  refine q_vu [] 2 [6, 18] [(7, vp 2 0)] [] [(2, bx 89 [.emp])] ?_
  refine q_sq ?_
  refine q_sq ?_
  obtain ⟨v6, h7, hm⟩ := qC hm
  refine q_vu [qc 2 [20, 21] 3 (XE a1 a2 v6 h7)] 3 [] [(22, vc (.fn 75 [.bptr 3 0 0, .bptr 4 0 0]))] [] [(3, bx 31 (qD v6.1)), (4, bx 3 [ci v6.2])] ?_
  refine q_bk 0 ?_
  refine q_fn [.ownB 2 0 5 28 4 (rf qK ([] : List Rect))] ⟨[(2, vp 0 0), (3, vp 1 0), (7, vp 2 0), (22, vc (.fn 75 [.bptr 3 0 0, .bptr 4 0 0]))], [(0, bx 31 (qD a1)), (1, bx 3 [ci a2]), (2, bx 89 [.own 5 0 4 0]), (3, bx 31 (qD v6.1)), (4, bx 3 [ci v6.2]), (5, ro 0 28 4 0 (rf qK ([] : List Rect)))]⟩ o0 ?_
  refine q_fn [.len 5 (([] : List Rect).length)] ⟨[(2, vp 0 0), (3, vp 1 0), (7, vp 2 0), (22, vc (.fn 75 [.bptr 3 0 0, .bptr 4 0 0]))], [(0, bx 31 (qD a1)), (1, bx 3 [ci a2]), (2, bx 89 [.own 5 0 4 (([] : List Rect).length)]), (3, bx 31 (qD v6.1)), (4, bx 3 [ci v6.2]), (5, ro 0 28 4 (([] : List Rect).length) (rf qK ([] : List Rect)))]⟩ (o1 (And.intro (show 0 = ([] : List Rect).length from rfl) (show 0 = ([] : List Rect).length from rfl))) ?_
  obtain ⟨v8, h9, hm⟩ := qC hm
  refine q_rf (.tmp 22) [2, 3, 7] 6 [(6, 0), (0, 0), (1, 0), (2, 0), (3, 0), (4, 0), (5, 0)] [0, 0, 0, 0, 0, 0, 1] 0 6 [] v8.1 0 ⟨[(7, vp 2 0)], [(2, bx 89 [.own 5 0 4 v8.2.length]), (5, ro 0 28 4 v8.2.length (rf qK v8.2))]⟩ (fun ri => ID a1 a2 v6.1 v6.2 ([] : List Rect) ri v8 h9) ?_
  rcases Bool.eq_false_or_eq_true (Nat.beq v8.1 0) with b10 | b10
  ·replace hm := qA b10 hm
   refine JQ_n b10 ?_
   refine q_sq ?_
   refine q_vu [] 7 [7] [(4, vo 5 0 4 v8.2.length), (5, vi 0)] [2] [] ?_
   obtain rfl := Option.some.inj hm
   refine jO 5 0 (by kernel_rfl) ?_
   refine q_rt ?_
   exact q_rm
  ·replace hm := qB b10 hm
   cases hm
def qEt (r : Int) : V := vi r
def qES (r : Int) : List (Nat × (Nat × O)) := []
def VT (v2 : qI) (x4 : Int) (x5 : Int) : St :=
 ⟨[(3, vi x4), (8, vc (tl e_Span default v2.Rows)), (9, vi ((v2.Rows.length : Nat) : Int)), (10, vi x5)], []⟩
def MR (x10 : Int) : St :=
 ⟨[(3, vi x10)], []⟩
theorem qAZ (E : Env 0) (v2 : qI) : ∀ (n : Nat) (x4 : Int) (x5 : Int) (res : Int), ZQ v2 n x4 x5 = some res → HL (kx E 21 0) (nd Try.f27 116) (jU 0 (fun o => MR o) res) n (VT v2 x4 x5) := by
 intro n
 induction n with
 | zero =>
  intro x4 x5 res hm
  cases hm
 | succ n ih =>
  intro x4 x5 res hm
  refine qT ?_
  refine q_sq ?_
  refine q_vu [] 1 [] [(11, vb (decide (x5 < ((v2.Rows.length : Nat) : Int))))] [] [] ?_
  refine q_sq ?_
  refine q_cn (decide (x5 < ((v2.Rows.length : Nat) : Int))) (fun b6 => ?_) (fun b6 => ?_)
  ·replace hm := qA b6 hm
   refine q_sk ?_
   refine q_sq ?_
   refine q_bk 1 ?_
   refine q_sq ?_
   obtain ⟨g7, hm⟩ := qP hm
   refine q_vu [qd 0 (Dir.none) (inb_of g7)] 1 [11] [(5, vp 1 0)] [] [(1, bx 26 [ci ((v2.Rows.getD x5.toNat default).A), ci ((v2.Rows.getD x5.toNat default).B)])] ?_
   obtain ⟨v8, h9, hm⟩ := qC hm
   refine q_vu [qc 2 [15] 2 (PZ (v2.Rows.getD x5.toNat default) v8 h9)] 2 [3, 5] [(3, vi (w64 (x4 + v8)))] [1] [] ?_
   refine q_vu [] 2 [10] [(10, vi (w64 (x5 + 1)))] [] [] ?_
   exact q_hl (VT v2 (w64 (x4 + v8)) (w64 (x5 + 1))) (ih (w64 (x4 + v8)) (w64 (x5 + 1)) _ hm)
  ·replace hm := qB b6 hm
   refine q_ex 0 ?_
   obtain rfl := Option.some.inj hm
   exact ZP (by kernel_rfl) (by kernel_rfl)
theorem qDp (a1 : qI) (r : Int) (hm : TI a1 = some r) : CtX Try.prog globs 27 0 0 [.agg (zZ a1)] [] (qEt r) (qES r) := by
 unfold TI at hm
 refine q_E Try.f27 21 fun E => ?_
 refine q_sq ?_
 refine q_vn [] 0 ⟨[(1, vp 0 0)], [(0, bx 66 (zZ a1))]⟩ ?_
 refine q_sq ?_
 refine q_vu [] 1 [] [(3, vi 0)] [] [] ?_
 refine q_sq ?_
 refine q_sq ?_
 obtain ⟨v2, h3, hm⟩ := qC hm
 refine q_vu [qc 1 [6] 1 (SB a1 v2 h3)] 1 [1] [(8, vc (tl e_Span default v2.Rows)), (9, vi ((v2.Rows.length : Nat) : Int)), (10, vi 0)] [0] [] ?_
 obtain ⟨o11, h12, hm⟩ := qC hm
 refine jL (nd Try.f27 116) 0 (by kernel_rfl) FUEL (fun o => MR o) o11 (q_hl (VT v2 0 0) (qAZ E v2 FUEL 0 0 o11 h12)) ?_
 refine q_sq ?_
 refine q_vn [] 1 ⟨[(2, vi (w64 (10 * o11)))], []⟩ ?_
 obtain rfl := Option.some.inj hm
 refine q_rt ?_
 exact q_rm
set_option maxRecDepth 100000
def qEC (r : Int) : V := vi r
def qET (r : Int) : List (Nat × (Nat × O)) := []
def VM (v2 : (List qF)) (x4 : Int) (x5 : Int) : St :=
 ⟨[(3, vi x4), (7, vc (tl qH default v2)), (8, vi ((v2.length : Nat) : Int)), (9, vi x5)], []⟩
def HB (x10 : Int) : St :=
 ⟨[(3, vi x10)], []⟩
theorem qA7 (E : Env 0) (v2 : (List qF)) : ∀ (n : Nat) (x4 : Int) (x5 : Int) (res : Int), ZS v2 n x4 x5 = some res → HL (kx E 23 0) (nd Try.f13 116) (jU 0 (fun o => HB o) res) n (VM v2 x4 x5) := by
 intro n
 induction n with
 | zero =>
  intro x4 x5 res hm
  cases hm
 | succ n ih =>
  intro x4 x5 res hm
  refine qT ?_
  refine q_sq ?_
  refine q_vu [] 0 [] [(10, vb (decide (x5 < ((v2.length : Nat) : Int))))] [] [] ?_
  refine q_sq ?_
  refine q_cn (decide (x5 < ((v2.length : Nat) : Int))) (fun b6 => ?_) (fun b6 => ?_)
  ·replace hm := qA b6 hm
   refine q_sk ?_
   refine q_sq ?_
   refine q_bk 1 ?_
   refine q_sq ?_
   obtain ⟨g7, hm⟩ := qP hm
   refine q_vu [qd 0 (Dir.none) (inb_of g7)] 0 [10] [(5, vp 0 0)] [] [(0, bx 68 [ci ((v2.getD x5.toNat default).Len), ci (((v2.getD x5.toNat default).Sec).Low), tl e_Span default (((v2.getD x5.toNat default).Sec).Rows)])] ?_
   obtain ⟨v8, h9, hm⟩ := qC hm
   refine q_du [qc 5 [17] 1 (qDp ((v2.getD x5.toNat default).Sec) v8 h9)] [0, 0, 2, 0, 8, 24, 62, 127, 255] 1 [3, 5] [(3, vi (w64 (x4 + (w64 (((v2.getD x5.toNat default).Len) * v8)))))] [0] [] ?_
   refine q_vu [] 1 [9] [(9, vi (w64 (x5 + 1)))] [] [] ?_
   exact q_hl (VM v2 (w64 (x4 + (w64 (((v2.getD x5.toNat default).Len) * v8)))) (w64 (x5 + 1))) (ih (w64 (x4 + (w64 (((v2.getD x5.toNat default).Len) * v8)))) (w64 (x5 + 1)) _ hm)
  ·replace hm := qB b6 hm
   refine q_ex 0 ?_
   obtain rfl := Option.some.inj hm
   exact ZP (by kernel_rfl) (by kernel_rfl)
theorem BV (a1 : List qF) (r : Int) (hm : XX a1 = some r) : CtX Try.prog globs 13 0 0 [.one (tl qH default a1)] [] (qEC r) (qET r) := by
 unfold XX at hm
 refine q_E Try.f13 23 fun E => ?_
 refine q_sq ?_
 refine q_vn [] 0 ⟨[(0, vc (tl qH default a1))], []⟩ ?_
 refine q_sq ?_
 refine q_vu [] 0 [] [(3, vi 0)] [] [] ?_
 refine q_sq ?_
 refine q_sq ?_
 obtain ⟨v2, h3, hm⟩ := qC hm
 refine q_vu [qc 1 [6] 0 (FK a1 v2 h3)] 0 [0] [(7, vc (tl qH default v2)), (8, vi ((v2.length : Nat) : Int)), (9, vi 0)] [] [] ?_
 obtain ⟨o11, h12, hm⟩ := qC hm
 refine jL (nd Try.f13 116) 0 (by kernel_rfl) FUEL (fun o => HB o) o11 (q_hl (VM v2 0 0) (qA7 E v2 FUEL 0 0 o11 h12)) ?_
 refine q_sq ?_
 refine q_vn [] 0 ⟨[(2, vi o11)], []⟩ ?_
 obtain rfl := Option.some.inj hm
 refine q_rt ?_
 exact q_rm
open Go.Proofs
set_option maxHeartbeats 4000000
set_option maxRecDepth 100000
def qIJ (r : Yield × Int) : V := .tup [.agg (zF r.1), .one (ci r.2)]
def qID (r : Yield × Int) : List (Nat × (Nat × O)) := []
def MK (a1 : List qF) (a5 : Saw) (a6 : Rates) (v10 : (List Yield_Cut) × Int) (v13 : (List Rect) × Int) (v16 : Int) (v18 : Int) (x20 : Int) (x21 : Int) : St :=
 ⟨[(0, vc (tl qH default a1)), (10, vp 1 0), (11, vp 2 0), (12, vp 3 0), (15, vo 4 0 9 v10.1.length), (18, vi v16), (19, vp 6 0), (68, vo 5 0 4 v13.1.length), (69, vi ((v13.1.length : Nat) : Int)), (70, vi x20)], [(1, bx 33 (jD a5)), (2, bx 35 (WN a6)), (3, bx 41 [ci 0, ci 0, ci 0, ci 0, ci 0]), (4, ro 0 54 9 v10.1.length (rf qL v10.1)), (5, ro 0 28 4 v13.1.length (rf qK v13.1)), (6, bx 41 [ci v18, ci 0, ci 0, ci x21, ci 0])]⟩
def CX (a1 : List qF) (a5 : Saw) (a6 : Rates) (v10 : (List Yield_Cut) × Int) (v16 : Int) (x28 : Yield) : St :=
 ⟨[(0, vc (tl qH default a1)), (10, vp 1 0), (11, vp 2 0), (12, vp 3 0), (15, vo 4 0 9 v10.1.length), (18, vi v16), (19, vp 6 0)], [(1, bx 33 (jD a5)), (2, bx 35 (WN a6)), (3, bx 41 [ci 0, ci 0, ci 0, ci 0, ci 0]), (4, ro 0 54 9 v10.1.length (rf qL v10.1)), (6, bx 41 (zF x28))]⟩
def MJ (a1 : List qF) (a5 : Saw) (a6 : Rates) (v10 : (List Yield_Cut) × Int) (v16 : Int) (o29 : Yield) (x31 : Int) (x32 : Int) (x33 : Int) (x34 : Int) : St :=
 ⟨[(0, vc (tl qH default a1)), (10, vp 1 0), (11, vp 2 0), (12, vp 3 0), (18, vi v16), (19, vp 6 0), (85, vo 4 0 9 v10.1.length), (86, vi ((v10.1.length : Nat) : Int)), (87, vi x31)], [(1, bx 33 (jD a5)), (2, bx 35 (WN a6)), (3, bx 41 [ci 0, ci 0, ci 0, ci 0, ci 0]), (4, ro 0 54 9 v10.1.length (rf qL v10.1)), (6, bx 41 [ci o29.Log, ci x32, ci o29.Chips, ci x33, ci x34])]⟩
def CV (a6 : Rates) (x47 : Yield) : St :=
 ⟨[(11, vp 2 0), (12, vp 3 0), (19, vp 6 0)], [(2, bx 35 (WN a6)), (3, bx 41 [ci 0, ci 0, ci 0, ci 0, ci 0]), (6, bx 41 (zF x47))]⟩
theorem qEn (E : Env 0) (a1 : List qF) (a5 : Saw) (a6 : Rates) (v10 : (List Yield_Cut) × Int) (v13 : (List Rect) × Int) (v16 : Int) (v18 : Int) : ∀ (n : Nat) (x20 : Int) (x21 : Int) (res : Yield), YU a1 v13 v16 v18 n x20 x21 = some res → HL (kx E 177 0) (nd Try.f24 8180) (jU 0 (fun o => CX a1 a5 a6 v10 v16 o) res) n (MK a1 a5 a6 v10 v13 v16 v18 x20 x21) := by
 intro n
 induction n with
 | zero =>
  intro x20 x21 res hm
  cases hm
 | succ n ih =>
  intro x20 x21 res hm
  refine qT ?_
  refine q_sq ?_
  refine q_vu [] 7 [] [(71, vb (decide (x20 < ((v13.1.length : Nat) : Int))))] [] [] ?_
  refine q_sq ?_
  refine q_cn (decide (x20 < ((v13.1.length : Nat) : Int))) (fun b22 => ?_) (fun b22 => ?_)
  ·replace hm := qA b22 hm
   refine q_sk ?_
   refine q_sq ?_
   refine q_bk 1 ?_
   refine q_sq ?_
   obtain ⟨g23, hm⟩ := qP hm
   refine q_vu [qd 0 (Dir.none) (inb_of g23), qd 1 (Dir.none) (toNat_lt (inb_of g23))] 7 [71] [(21, vp 7 0)] [] [(7, bx 28 [ci (((v13.1.getD x20.toNat default).X).A), ci (((v13.1.getD x20.toNat default).X).B), ci (((v13.1.getD x20.toNat default).Y).A), ci (((v13.1.getD x20.toNat default).Y).B)])] ?_
   obtain ⟨v24, h25, hm⟩ := qC hm
   obtain ⟨v26, h27, hm⟩ := qC hm
   refine q_du [qc 6 [77, 79] 8 (NN (v13.1.getD x20.toNat default) (Span.mk 0 v16) v24 h25), qc 7 [76, 80] 8 (JZ a1 v24 v26 h27)] [0, 1, 0, 0, 0, 16, 56, 124, 255, 511, 1023] 8 [21] [] [6, 7] [(6, bx 41 [ci v18, ci 0, ci 0, ci (w64 (x21 + v26)), ci 0])] ?_
   refine q_vu [] 8 [70] [(70, vi (w64 (x20 + 1)))] [] [] ?_
   exact q_hl (MK a1 a5 a6 v10 v13 v16 v18 (w64 (x20 + 1)) (w64 (x21 + v26))) (ih (w64 (x20 + 1)) (w64 (x21 + v26)) _ hm)
  ·replace hm := qB b22 hm
   refine q_ex 0 ?_
   obtain rfl := Option.some.inj hm
   exact ZP (by kernel_rfl) (by kernel_rfl)
theorem qEJ (E : Env 0) (a1 : List qF) (a5 : Saw) (a6 : Rates) (v10 : (List Yield_Cut) × Int) (v16 : Int) (o29 : Yield) : ∀ (n : Nat) (x31 : Int) (x32 : Int) (x33 : Int) (x34 : Int) (res : Yield), YT a1 a5 v10 v16 o29 n x31 x32 x33 x34 = some res → HL (kx E 177 0) (nd Try.f24 16372) (jU 2 (fun o => CV a6 o) res) n (MJ a1 a5 a6 v10 v16 o29 x31 x32 x33 x34) := by
 intro n
 induction n with
 | zero =>
  intro x31 x32 x33 x34 res hm
  cases hm
 | succ n ih =>
  intro x31 x32 x33 x34 res hm
  refine qT ?_
  refine q_sq ?_
  refine q_vu [] 7 [] [(88, vb (decide (x31 < ((v10.1.length : Nat) : Int))))] [] [] ?_
  refine q_sq ?_
  refine q_cn (decide (x31 < ((v10.1.length : Nat) : Int))) (fun b35 => ?_) (fun b35 => ?_)
  ·replace hm := qA b35 hm
   refine q_sk ?_
   refine q_sq ?_
   refine q_bk 3 ?_
   refine q_sq ?_
   obtain ⟨g36, hm⟩ := qP hm
   refine q_vu [qd 0 (Dir.none) (inb_of g36), qd 1 (Dir.none) (toNat_lt (inb_of g36))] 7 [88] [(23, vp 7 0)] [] [(7, bx 54 [ci ((v10.1.getD x31.toNat default).Leaf), ci ((v10.1.getD x31.toNat default).Product), ci ((((v10.1.getD x31.toNat default).Box).X).A), ci ((((v10.1.getD x31.toNat default).Box).X).B), ci ((((v10.1.getD x31.toNat default).Box).Y).A), ci ((((v10.1.getD x31.toNat default).Box).Y).B), ci ((((v10.1.getD x31.toNat default).Box).Z).A), ci ((((v10.1.getD x31.toNat default).Box).Z).B), ci ((v10.1.getD x31.toNat default).Worth)])] ?_
   refine q_sq ?_
   obtain ⟨v37, h38, hm⟩ := qC hm
   refine q_du [qc 5 [93, 95] 8 (JZ a1 ((v10.1.getD x31.toNat default).Box) v37 h38)] [0, 1, 0, 0, 8, 28, 63, 127, 255] 8 [] [] [6] [(6, bx 41 [ci o29.Log, ci (w64 (x32 + v37)), ci o29.Chips, ci x33, ci x34])] ?_
   refine q_sq ?_
   refine q_vu [] 8 [] [] [6] [(6, bx 41 [ci o29.Log, ci (w64 (x32 + v37)), ci o29.Chips, ci x33, ci (w64 (x34 + (w64 (1000000 * ((v10.1.getD x31.toNat default).Worth)))))])] ?_
   refine q_sq ?_
   refine q_vu [] 8 [] [(24, vp 8 0)] [] [(8, bx 28 [ci ((((v10.1.getD x31.toNat default).Box).X).A), ci ((((v10.1.getD x31.toNat default).Box).X).B), ci ((((v10.1.getD x31.toNat default).Box).Y).A), ci ((((v10.1.getD x31.toNat default).Box).Y).B)])] ?_
   refine q_sq ?_
   refine q_vu [] 9 [23] [(25, vp 9 0)] [7] [(9, bx 26 [ci ((((v10.1.getD x31.toNat default).Box).Z).A), ci ((((v10.1.getD x31.toNat default).Box).Z).B)])] ?_
   refine q_sq ?_
   obtain ⟨v39, h40, hm⟩ := qC hm
   obtain ⟨v41, h42, hm⟩ := qC hm
   refine q_du [qc 13 [119, 128] 10 (NN (Rect.mk (((v10.1.getD x31.toNat default).Box).X) (((v10.1.getD x31.toNat default).Box).Y)) (Span.mk (imax 0 (w64 (((((v10.1.getD x31.toNat default).Box).Z).A) - a5.Trim))) ((((v10.1.getD x31.toNat default).Box).Z).A)) v39 h40), qc 14 [118, 129] 10 (JZ a1 v39 v41 h42)] [0, 1, 0, 0, 0, 16, 0, 64, 240, 496, 0, 1024, 4080, 8184, 16380, 32767, 65535, 131071] 10 [] [] [6] [(6, bx 41 [ci o29.Log, ci (w64 (x32 + v37)), ci o29.Chips, ci (w64 (x33 + v41)), ci (w64 (x34 + (w64 (1000000 * ((v10.1.getD x31.toNat default).Worth)))))])] ?_
   obtain ⟨v43, h44, hm⟩ := qC hm
   obtain ⟨v45, h46, hm⟩ := qC hm
   refine q_du [qc 14 [136, 146] 10 (NN (Rect.mk (((v10.1.getD x31.toNat default).Box).X) (((v10.1.getD x31.toNat default).Box).Y)) (Span.mk ((((v10.1.getD x31.toNat default).Box).Z).B) (imin (w64 (((((v10.1.getD x31.toNat default).Box).Z).B) + a5.Trim)) v16)) v43 h44), qc 15 [135, 147] 10 (JZ a1 v43 v45 h46)] [0, 1, 0, 0, 0, 16, 0, 64, 0, 256, 960, 0, 4032, 8176, 16376, 32764, 65535, 131071, 262143] 10 [24, 25] [] [6, 8, 9] [(6, bx 41 [ci o29.Log, ci (w64 (x32 + v37)), ci o29.Chips, ci (w64 ((w64 (x33 + v41)) + v45)), ci (w64 (x34 + (w64 (1000000 * ((v10.1.getD x31.toNat default).Worth)))))])] ?_
   refine q_vu [] 10 [87] [(87, vi (w64 (x31 + 1)))] [] [] ?_
   exact q_hl (MJ a1 a5 a6 v10 v16 o29 (w64 (x31 + 1)) (w64 (x32 + v37)) (w64 ((w64 (x33 + v41)) + v45)) (w64 (x34 + (w64 (1000000 * ((v10.1.getD x31.toNat default).Worth)))))) (ih (w64 (x31 + 1)) (w64 (x32 + v37)) (w64 ((w64 (x33 + v41)) + v45)) (w64 (x34 + (w64 (1000000 * ((v10.1.getD x31.toNat default).Worth))))) _ hm)
  ·replace hm := qB b35 hm
   refine q_ex 2 ?_
   obtain rfl := Option.some.inj hm
   exact ZP (by kernel_rfl) (by kernel_rfl)
theorem qHA (a1 : List qF) (a2 : List Defect) (a3 : List Product) (a4 : Pattern) (a5 : Saw) (a6 : Rates) (r : Yield × Int) (hm : GT a1 a2 a3 a4 a5 a6 = some r) : CtX Try.prog globs 24 0 0 [.one (tl qH default a1), .one (tl qG default a2), .one (tl qE default a3), .agg (qD a4), .agg (jD a5), .agg (WN a6)] [] (qIJ r) (qID r) := by
 unfold GT at hm
 refine q_E Try.f24 177 fun E => ?_
 refine q_sq ?_
 refine q_vn [] 0 ⟨[(0, vc (tl qH default a1)), (1, vc (tl qG default a2)), (2, vc (tl qE default a3)), (9, vp 0 0), (10, vp 1 0), (11, vp 2 0), (12, vp 3 0)], [(0, bx 31 (qD a4)), (1, bx 33 (jD a5)), (2, bx 35 (WN a6)), (3, bx 41 [ci 0, ci 0, ci 0, ci 0, ci 0])]⟩ ?_
 refine q_sq ?_
 refine q_sq ?_
 obtain ⟨v7, h8, hm⟩ := qC hm
 refine q_vu [qc 6 [26, 27, 28, 29, 30, 31] 4 (OL a1 a2 a3 a4 a5 a6 v7 h8)] 4 [] [(14, vi v7)] [] [] ?_
 refine q_sq ?_
 refine q_vu [] 4 [] [(34, vb (v7 != 0))] [] [] ?_
 refine q_cn (v7 != 0) (fun b9 => ?_) (fun b9 => ?_)
 ·replace hm := qA b9 hm
  refine q_sq ?_
  refine q_vu [] 4 [0, 1, 2, 9, 10, 11, 14, 34] [(13, vi v7)] [0, 1, 2] [] ?_
  obtain rfl := Option.some.inj hm
  refine q_rt ?_
  exact q_rm
 ·replace hm := qB b9 hm
  refine q_sk ?_
  refine q_sq ?_
  obtain ⟨v10, h11, hm⟩ := qC hm
  refine q_vu [qc 7 [38, 39, 40, 41, 42, 44] 4 (AQ a1 a2 a3 a4 a5 a6.Fine v10 h11)] 4 [1, 2, 14, 34] [(15, vo 4 0 9 v10.1.length), (16, vi v10.2)] [] [(4, ro 0 54 9 v10.1.length (rf qL v10.1))] ?_
  refine q_sq ?_
  refine q_sq ?_
  refine q_vu [] 5 [] [(49, vb (v10.2 != 0))] [] [] ?_
  refine q_cn (v10.2 != 0) (fun b12 => ?_) (fun b12 => ?_)
  ·replace hm := qA b12 hm
   refine q_sq ?_
   refine q_vu [] 5 [0, 9, 10, 11, 15, 16, 49] [(13, vi v10.2)] [0, 1, 2, 4] [] ?_
   obtain rfl := Option.some.inj hm
   refine q_rt ?_
   exact q_rm
  ·replace hm := qB b12 hm
   refine q_sk ?_
   refine q_sq ?_
   obtain ⟨v13, h14, hm⟩ := qC hm
   refine q_vu [qc 3 [53, 55] 5 (qCS a4 a5.Kerf v13 h14)] 5 [9, 16, 49] [(16, vi v13.2), (17, vo 5 0 4 v13.1.length)] [0] [(5, ro 0 28 4 v13.1.length (rf qK v13.1))] ?_
   refine q_sq ?_
   refine q_sq ?_
   refine q_vu [] 6 [] [(60, vb (v13.2 != 0))] [] [] ?_
   refine q_cn (v13.2 != 0) (fun b15 => ?_) (fun b15 => ?_)
   ·replace hm := qA b15 hm
    refine q_sq ?_
    refine q_vu [] 6 [0, 10, 11, 15, 16, 17, 60] [(13, vi v13.2)] [1, 2, 4, 5] [] ?_
    obtain rfl := Option.some.inj hm
    refine q_rt ?_
    exact q_rm
   ·replace hm := qB b15 hm
    refine q_sk ?_
    refine q_sq ?_
    obtain ⟨v16, h17, hm⟩ := qC hm
    refine q_vu [qc 1 [63] 6 (RS a1 v16 h17)] 6 [16, 60] [(18, vi v16)] [] [] ?_
    refine q_sq ?_
    obtain ⟨v18, h19, hm⟩ := qC hm
    refine q_vu [qc 1 [65] 6 (BV a1 v18 h19)] 6 [] [(19, vp 6 0)] [] [(6, bx 41 [ci v18, ci 0, ci 0, ci 0, ci 0])] ?_
    refine q_sq ?_
    refine q_sq ?_
    refine q_vu [] 7 [17] [(68, vo 5 0 4 v13.1.length), (69, vi ((v13.1.length : Nat) : Int)), (70, vi 0)] [] [] ?_
    obtain ⟨o29, h30, hm⟩ := qC hm
    refine jL (nd Try.f24 8180) 0 (by kernel_rfl) FUEL (fun o => CX a1 a5 a6 v10 v16 o) o29 (q_hl (MK a1 a5 a6 v10 v13 v16 v18 0 0) (qEn E a1 a5 a6 v10 v13 v16 v18 FUEL 0 0 o29 h30)) ?_
    refine q_sq ?_
    refine q_sq ?_
    refine q_vu [] 7 [15] [(85, vo 4 0 9 v10.1.length), (86, vi ((v10.1.length : Nat) : Int)), (87, vi 0)] [] [] ?_
    obtain ⟨o48, h49, hm⟩ := qC hm
    refine jL (nd Try.f24 16372) 2 (by kernel_rfl) FUEL (fun o => CV a6 o) o48 (q_hl (MJ a1 a5 a6 v10 v16 o29 0 o29.Boards o29.Dust o29.Value) (qEJ E a1 a5 a6 v10 v16 o29 FUEL 0 o29.Boards o29.Dust o29.Value o48 h49)) ?_
    refine q_sq ?_
    refine q_vu [] 7 [] [] [6] [(6, bx 41 [ci o48.Log, ci o48.Boards, ci (w64 ((w64 (o48.Log - o48.Boards)) - o48.Dust)), ci o48.Dust, ci o48.Value])] ?_
    refine q_sq ?_
    refine q_vu [] 7 [11] [] [2, 6] [(6, bx 41 [ci o48.Log, ci o48.Boards, ci (w64 ((w64 (o48.Log - o48.Boards)) - o48.Dust)), ci o48.Dust, ci (w64 (o48.Value + (w64 ((w64 (a6.Chip * (w64 ((w64 (o48.Log - o48.Boards)) - o48.Dust)))) + (w64 (a6.Dust * o48.Dust))))))])] ?_
    refine q_sq ?_
    refine q_vu [] 7 [19] [(13, vi 0)] [3, 6] [(3, bx 41 [ci o48.Log, ci o48.Boards, ci (w64 ((w64 (o48.Log - o48.Boards)) - o48.Dust)), ci o48.Dust, ci (w64 (o48.Value + (w64 ((w64 (a6.Chip * (w64 ((w64 (o48.Log - o48.Boards)) - o48.Dust)))) + (w64 (a6.Dust * o48.Dust))))))])] ?_
    obtain rfl := Option.some.inj hm
    refine q_rt ?_
    exact q_rm
def qBE (r : Int) : V := vc (.val (.int .u64 r))
def qBK (r : Int) : List (Nat × (Nat × O)) := []
theorem LV (a1 : Int) (r : Int) (hm : YF a1 = some r) : CtX Try.prog globs 46 0 0 [.one (ci a1)] [] (qBE r) (qBK r) := by
 unfold YF at hm
 refine q_E Try.f46 10 fun E => ?_
 refine q_sq ?_
 refine q_vn [] 0 ⟨[(0, vi a1)], []⟩ ?_
 refine q_sq ?_
 refine q_sq ?_
 refine q_vu [] 0 [] [(4, vb (decide (a1 < 0)))] [] [] ?_
 refine q_cn (decide (a1 < 0)) (fun b2 => ?_) (fun b2 => ?_)
 ·replace hm := qA b2 hm
  refine q_sq ?_
  refine q_vn [] 0 ⟨[(2, vc (.val (.int .u64 (IntKind.u64.wrap (0 - (IntKind.u64.wrap (a1)))))))], []⟩ ?_
  obtain rfl := Option.some.inj hm
  refine q_rt ?_
  exact q_rm
 ·replace hm := qB b2 hm
  refine q_sk ?_
  refine q_sq ?_
  refine q_vn [] 0 ⟨[(2, vc (.val (.int .u64 (IntKind.u64.wrap (a1)))))], []⟩ ?_
  obtain rfl := Option.some.inj hm
  refine q_rt ?_
  exact q_rm
set_option maxRecDepth 100000
def qBD (r : Int × Int) : V := .tup [.one (.val (.int .u64 r.1)), .one (.val (.int .u64 r.2))]
def qBv (r : Int × Int) : List (Nat × (Nat × O)) := []
theorem qAz (a1 : Int) (a2 : Int) (r : Int × Int) (hm : YP a1 a2 = some r) : CtX Try.prog globs 45 0 0 [.one (.val (.int .u64 a1)), .one (.val (.int .u64 a2))] [] (qBD r) (qBv r) := by
 unfold YP at hm
 refine q_E Try.f45 51 fun E => ?_
 refine q_sq ?_
 refine q_vn [] 0 ⟨[(0, vc (.val (.int .u64 a1))), (1, vc (.val (.int .u64 a2)))], []⟩ ?_
 refine q_sq ?_
 refine q_vu [] 0 [] [(6, vc (.val (.int .u64 (andI .u64 a1 4294967295))))] [] [] ?_
 refine q_sq ?_
 refine q_vu [qd 1 (Dir.none) (show ¬ (32 : Int) < 0 by decide)] 0 [] [(7, vc (.val (.int .u64 (shrI .u64 a1 32))))] [] [] ?_
 refine q_sq ?_
 refine q_vu [] 0 [] [(8, vc (.val (.int .u64 (andI .u64 a2 4294967295))))] [] [] ?_
 refine q_sq ?_
 refine q_vu [qd 1 (Dir.none) (show ¬ (32 : Int) < 0 by decide)] 0 [] [(9, vc (.val (.int .u64 (shrI .u64 a2 32))))] [] [] ?_
 refine q_sq ?_
 refine q_vu [] 0 [] [(10, vc (.val (.int .u64 (IntKind.u64.wrap ((andI .u64 a1 4294967295) * (andI .u64 a2 4294967295))))))] [] [] ?_
 refine q_sq ?_
 refine q_vu [qd 4 (Dir.none) (show ¬ (32 : Int) < 0 by decide)] 0 [8, 10] [(11, vc (.val (.int .u64 (IntKind.u64.wrap ((IntKind.u64.wrap ((shrI .u64 a1 32) * (andI .u64 a2 4294967295))) + (shrI .u64 (IntKind.u64.wrap ((andI .u64 a1 4294967295) * (andI .u64 a2 4294967295))) 32))))))] [] [] ?_
 refine q_sq ?_
 refine q_vu [] 0 [] [(12, vc (.val (.int .u64 (andI .u64 (IntKind.u64.wrap ((IntKind.u64.wrap ((shrI .u64 a1 32) * (andI .u64 a2 4294967295))) + (shrI .u64 (IntKind.u64.wrap ((andI .u64 a1 4294967295) * (andI .u64 a2 4294967295))) 32))) 4294967295))))] [] [] ?_
 refine q_sq ?_
 refine q_vu [qd 1 (Dir.none) (show ¬ (32 : Int) < 0 by decide)] 0 [11] [(13, vc (.val (.int .u64 (shrI .u64 (IntKind.u64.wrap ((IntKind.u64.wrap ((shrI .u64 a1 32) * (andI .u64 a2 4294967295))) + (shrI .u64 (IntKind.u64.wrap ((andI .u64 a1 4294967295) * (andI .u64 a2 4294967295))) 32))) 32))))] [] [] ?_
 refine q_sq ?_
 refine q_vu [] 0 [6, 12] [(12, vc (.val (.int .u64 (IntKind.u64.wrap ((andI .u64 (IntKind.u64.wrap ((IntKind.u64.wrap ((shrI .u64 a1 32) * (andI .u64 a2 4294967295))) + (shrI .u64 (IntKind.u64.wrap ((andI .u64 a1 4294967295) * (andI .u64 a2 4294967295))) 32))) 4294967295) + (IntKind.u64.wrap ((andI .u64 a1 4294967295) * (shrI .u64 a2 32))))))))] [] [] ?_
 refine q_sq ?_
 refine q_vu [qd 6 (Dir.none) (show ¬ (32 : Int) < 0 by decide)] 0 [7, 9, 12, 13] [(4, vc (.val (.int .u64 (IntKind.u64.wrap ((IntKind.u64.wrap ((IntKind.u64.wrap ((shrI .u64 a1 32) * (shrI .u64 a2 32))) + (shrI .u64 (IntKind.u64.wrap ((IntKind.u64.wrap ((shrI .u64 a1 32) * (andI .u64 a2 4294967295))) + (shrI .u64 (IntKind.u64.wrap ((andI .u64 a1 4294967295) * (andI .u64 a2 4294967295))) 32))) 32))) + (shrI .u64 (IntKind.u64.wrap ((andI .u64 (IntKind.u64.wrap ((IntKind.u64.wrap ((shrI .u64 a1 32) * (andI .u64 a2 4294967295))) + (shrI .u64 (IntKind.u64.wrap ((andI .u64 a1 4294967295) * (andI .u64 a2 4294967295))) 32))) 4294967295) + (IntKind.u64.wrap ((andI .u64 a1 4294967295) * (shrI .u64 a2 32))))) 32))))))] [] [] ?_
 refine q_sq ?_
 refine q_vu [] 0 [0, 1] [(5, vc (.val (.int .u64 (IntKind.u64.wrap (a1 * a2)))))] [] [] ?_
 obtain rfl := Option.some.inj hm
 refine q_rt ?_
 exact q_rm
open Go.Proofs
set_option maxHeartbeats 4000000
set_option maxRecDepth 100000
def qBA (r : Int) : V := vi r
def qBF (r : Int) : List (Nat × (Nat × O)) := []
def NO (x9 : Int) (x10 : Int) : St :=
 ⟨[(0, vc (.val (.int .u64 x9))), (2, vi x10)], []⟩
def NH (x6 : Int) (x7 : Int) : St :=
 ⟨[(0, vc (.val (.int .u64 x6))), (2, vi x7)], []⟩
def BX (x3 : Int) (x4 : Int) : St :=
 ⟨[(0, vc (.val (.int .u64 x3))), (2, vi x4)], []⟩
theorem qAU (a1 : Int) (r : Int) (hm : NF a1 = some r) : CtX Try.prog globs 87 0 0 [.one (.val (.int .u64 a1))] [] (qBA r) (qBF r) := by
 unfold NF at hm
 refine q_E Try.f87 25 fun E => ?_
 refine q_sq ?_
 refine q_vn [] 0 ⟨[(0, vc (.val (.int .u64 a1))), (2, vi 0)], []⟩ ?_
 refine q_jn (ι := Int × Int) (fun p => BX p.1 p.2) (fun p => UB p.1 p.2 = some r) ?_ ?_
 ·rintro ⟨x3, x4⟩ hm
  show H _ (BX x3 x4) _ _
  refine q_jn (ι := Int × Int) (fun p => NH p.1 p.2) (fun p => UI p.1 p.2 = some r) ?_ ?_
  ·rintro ⟨x6, x7⟩ hm
   show H _ (NH x6 x7) _ _
   refine q_jn (ι := Int × Int) (fun p => NO p.1 p.2) (fun p => TS p.1 p.2 = some r) ?_ ?_
   ·rintro ⟨x9, x10⟩ hm
    show H _ (NO x9 x10) _ _
    refine q_sq ?_
    obtain ⟨g11, hm⟩ := qP hm
    refine q_vn [qd 3 (Dir.none) (inb_of g11)] 0 ⟨[(2, vi (w64 (x10 + (w64 (strAt (ByteArray.mk #[0, 1, 2, 2, 3, 3, 3, 3, 4, 4, 4, 4, 4, 4, 4, 4, 5, 5, 5, 5, 5, 5, 5, 5, 5, 5, 5, 5, 5, 5, 5, 5, 6, 6, 6, 6, 6, 6, 6, 6, 6, 6, 6, 6, 6, 6, 6, 6, 6, 6, 6, 6, 6, 6, 6, 6, 6, 6, 6, 6, 6, 6, 6, 6, 7, 7, 7, 7, 7, 7, 7, 7, 7, 7, 7, 7, 7, 7, 7, 7, 7, 7, 7, 7, 7, 7, 7, 7, 7, 7, 7, 7, 7, 7, 7, 7, 7, 7, 7, 7, 7, 7, 7, 7, 7, 7, 7, 7, 7, 7, 7, 7, 7, 7, 7, 7, 7, 7, 7, 7, 7, 7, 7, 7, 7, 7, 7, 7, 8, 8, 8, 8, 8, 8, 8, 8, 8, 8, 8, 8, 8, 8, 8, 8, 8, 8, 8, 8, 8, 8, 8, 8, 8, 8, 8, 8, 8, 8, 8, 8, 8, 8, 8, 8, 8, 8, 8, 8, 8, 8, 8, 8, 8, 8, 8, 8, 8, 8, 8, 8, 8, 8, 8, 8, 8, 8, 8, 8, 8, 8, 8, 8, 8, 8, 8, 8, 8, 8, 8, 8, 8, 8, 8, 8, 8, 8, 8, 8, 8, 8, 8, 8, 8, 8, 8, 8, 8, 8, 8, 8, 8, 8, 8, 8, 8, 8, 8, 8, 8, 8, 8, 8, 8, 8, 8, 8, 8, 8, 8, 8, 8, 8, 8, 8, 8, 8, 8, 8, 8, 8, 8, 8, 8, 8, 8, 8]) ((IntKind.u8.wrap (x9)).toNat))))))], []⟩ ?_
    obtain rfl := Option.some.inj hm
    refine q_rt ?_
    exact q_rm
   ·refine q_sq ?_
    refine q_vu [] 0 [] [(14, vb (decide (x6 ≥ 256)))] [] [] ?_
    refine q_cn (decide (x6 ≥ 256)) (fun b8 => ?_) (fun b8 => ?_)
    ·replace hm := qA b8 hm
     refine q_sq ?_
     refine q_vu [qd 1 (Dir.none) (show ¬ (8 : Int) < 0 by decide)] 0 [0, 14] [(0, vc (.val (.int .u64 (shrI .u64 x6 8))))] [] [] ?_
     refine q_vu [] 0 [2] [(2, vi (w64 (x7 + 8)))] [] [] ?_
     exact q_J (shrI .u64 x6 8, w64 (x7 + 8)) hm
    ·replace hm := qB b8 hm
     refine q_sk ?_
     exact q_J (x6, x7) hm
  ·refine q_sq ?_
   refine q_vu [] 0 [] [(8, vb (decide (x3 ≥ 65536)))] [] [] ?_
   refine q_cn (decide (x3 ≥ 65536)) (fun b5 => ?_) (fun b5 => ?_)
   ·replace hm := qA b5 hm
    refine q_sq ?_
    refine q_vu [qd 1 (Dir.none) (show ¬ (16 : Int) < 0 by decide)] 0 [0, 8] [(0, vc (.val (.int .u64 (shrI .u64 x3 16))))] [] [] ?_
    refine q_vu [] 0 [2] [(2, vi (w64 (x4 + 16)))] [] [] ?_
    exact q_J (shrI .u64 x3 16, w64 (x4 + 16)) hm
   ·replace hm := qB b5 hm
    refine q_sk ?_
    exact q_J (x3, x4) hm
 ·refine q_sq ?_
  refine q_vu [] 0 [] [(4, vb (decide (a1 ≥ 4294967296)))] [] [] ?_
  refine q_cn (decide (a1 ≥ 4294967296)) (fun b2 => ?_) (fun b2 => ?_)
  ·replace hm := qA b2 hm
   refine q_sq ?_
   refine q_vn [qd 1 (Dir.none) (show ¬ (32 : Int) < 0 by decide)] 0 ⟨[(0, vc (.val (.int .u64 (shrI .u64 a1 32))))], []⟩ ?_
   refine q_vu [] 0 [] [(2, vi 32)] [] [] ?_
   exact q_J (shrI .u64 a1 32, 32) hm
  ·replace hm := qB b2 hm
   refine q_sk ?_
   exact q_J (a1, 0) hm
def MG (r : Int) : V := vi r
def ML (r : Int) : List (Nat × (Nat × O)) := []
theorem LG (a1 : Int) (r : Int) (hm : JA a1 = some r) : CtX Try.prog globs 66 0 0 [.one (.val (.int .u64 a1))] [] (MG r) (ML r) := by
 unfold JA at hm
 refine q_E Try.f66 6 fun E => ?_
 refine q_sq ?_
 refine q_vn [] 0 ⟨[(0, vc (.val (.int .u64 a1)))], []⟩ ?_
 refine q_sq ?_
 obtain ⟨v2, h3, hm⟩ := qC hm
 refine q_vn [qc 1 [3] 0 (qAU a1 v2 h3)] 0 ⟨[(2, vi (w64 (64 - v2)))], []⟩ ?_
 obtain rfl := Option.some.inj hm
 refine q_rt ?_
 exact q_rm
set_option maxRecDepth 100000
def qBJ (r : Int × Int) : V := .tup [.one (.val (.int .u64 r.1)), .one (.val (.int .u64 r.2))]
def qBB (r : Int × Int) : List (Nat × (Nat × O)) := []
def BH (a1 : Int) (a2 : Int) (a3 : Int) (v8 : Int) (x13 : Int) (x14 : Int) (x16 : Bool) : St :=
 ⟨[(2, vc (.val (.int .u64 (shlI .u64 a3 (IntKind.u64.wrap (v8)))))), (8, vc (.val (.int .u64 (IntKind.u64.wrap (v8))))), (9, vc (.val (.int .u64 (shrI .u64 (shlI .u64 a3 (IntKind.u64.wrap (v8))) 32)))), (10, vc (.val (.int .u64 (andI .u64 (shlI .u64 a3 (IntKind.u64.wrap (v8))) 4294967295)))), (11, vc (.val (.int .u64 (orI .u64 (shlI .u64 a1 (IntKind.u64.wrap (v8))) (shrI .u64 a2 (IntKind.u64.wrap (64 - (IntKind.u64.wrap (v8))))))))), (13, vc (.val (.int .u64 (shrI .u64 (shlI .u64 a2 (IntKind.u64.wrap (v8))) 32)))), (14, vc (.val (.int .u64 (andI .u64 (shlI .u64 a2 (IntKind.u64.wrap (v8))) 4294967295)))), (15, vc (.val (.int .u64 x13))), (16, vc (.val (.int .u64 x14))), (78, vb x16)], []⟩
def PF (a1 : Int) (a2 : Int) (a3 : Int) (v8 : Int) (x13 : Int) (x14 : Int) : St :=
 ⟨[(2, vc (.val (.int .u64 (shlI .u64 a3 (IntKind.u64.wrap (v8)))))), (8, vc (.val (.int .u64 (IntKind.u64.wrap (v8))))), (9, vc (.val (.int .u64 (shrI .u64 (shlI .u64 a3 (IntKind.u64.wrap (v8))) 32)))), (10, vc (.val (.int .u64 (andI .u64 (shlI .u64 a3 (IntKind.u64.wrap (v8))) 4294967295)))), (11, vc (.val (.int .u64 (orI .u64 (shlI .u64 a1 (IntKind.u64.wrap (v8))) (shrI .u64 a2 (IntKind.u64.wrap (64 - (IntKind.u64.wrap (v8))))))))), (13, vc (.val (.int .u64 (shrI .u64 (shlI .u64 a2 (IntKind.u64.wrap (v8))) 32)))), (14, vc (.val (.int .u64 (andI .u64 (shlI .u64 a2 (IntKind.u64.wrap (v8))) 4294967295)))), (15, vc (.val (.int .u64 x13))), (16, vc (.val (.int .u64 x14)))], []⟩
def BY (a1 : Int) (a2 : Int) (a3 : Int) (v8 : Int) (x19 : Int) : St :=
 ⟨[(2, vc (.val (.int .u64 (shlI .u64 a3 (IntKind.u64.wrap (v8)))))), (8, vc (.val (.int .u64 (IntKind.u64.wrap (v8))))), (9, vc (.val (.int .u64 (shrI .u64 (shlI .u64 a3 (IntKind.u64.wrap (v8))) 32)))), (10, vc (.val (.int .u64 (andI .u64 (shlI .u64 a3 (IntKind.u64.wrap (v8))) 4294967295)))), (11, vc (.val (.int .u64 (orI .u64 (shlI .u64 a1 (IntKind.u64.wrap (v8))) (shrI .u64 a2 (IntKind.u64.wrap (64 - (IntKind.u64.wrap (v8))))))))), (13, vc (.val (.int .u64 (shrI .u64 (shlI .u64 a2 (IntKind.u64.wrap (v8))) 32)))), (14, vc (.val (.int .u64 (andI .u64 (shlI .u64 a2 (IntKind.u64.wrap (v8))) 4294967295)))), (15, vc (.val (.int .u64 x19)))], []⟩
def NJ (a1 : Int) (a2 : Int) (a3 : Int) (v8 : Int) (o20 : Int) (x22 : Int) (x23 : Int) (x25 : Bool) : St :=
 ⟨[(2, vc (.val (.int .u64 (shlI .u64 a3 (IntKind.u64.wrap (v8)))))), (8, vc (.val (.int .u64 (IntKind.u64.wrap (v8))))), (9, vc (.val (.int .u64 (shrI .u64 (shlI .u64 a3 (IntKind.u64.wrap (v8))) 32)))), (10, vc (.val (.int .u64 (andI .u64 (shlI .u64 a3 (IntKind.u64.wrap (v8))) 4294967295)))), (14, vc (.val (.int .u64 (andI .u64 (shlI .u64 a2 (IntKind.u64.wrap (v8))) 4294967295)))), (15, vc (.val (.int .u64 o20))), (16, vc (.val (.int .u64 x22))), (17, vc (.val (.int .u64 (IntKind.u64.wrap ((IntKind.u64.wrap ((IntKind.u64.wrap ((orI .u64 (shlI .u64 a1 (IntKind.u64.wrap (v8))) (shrI .u64 a2 (IntKind.u64.wrap (64 - (IntKind.u64.wrap (v8)))))) * 4294967296)) + (shrI .u64 (shlI .u64 a2 (IntKind.u64.wrap (v8))) 32))) - (IntKind.u64.wrap (o20 * (shlI .u64 a3 (IntKind.u64.wrap (v8)))))))))), (18, vc (.val (.int .u64 x23))), (113, vb x25)], []⟩
def PH (a1 : Int) (a2 : Int) (a3 : Int) (v8 : Int) (o20 : Int) (x22 : Int) (x23 : Int) : St :=
 ⟨[(2, vc (.val (.int .u64 (shlI .u64 a3 (IntKind.u64.wrap (v8)))))), (8, vc (.val (.int .u64 (IntKind.u64.wrap (v8))))), (9, vc (.val (.int .u64 (shrI .u64 (shlI .u64 a3 (IntKind.u64.wrap (v8))) 32)))), (10, vc (.val (.int .u64 (andI .u64 (shlI .u64 a3 (IntKind.u64.wrap (v8))) 4294967295)))), (14, vc (.val (.int .u64 (andI .u64 (shlI .u64 a2 (IntKind.u64.wrap (v8))) 4294967295)))), (15, vc (.val (.int .u64 o20))), (16, vc (.val (.int .u64 x22))), (17, vc (.val (.int .u64 (IntKind.u64.wrap ((IntKind.u64.wrap ((IntKind.u64.wrap ((orI .u64 (shlI .u64 a1 (IntKind.u64.wrap (v8))) (shrI .u64 a2 (IntKind.u64.wrap (64 - (IntKind.u64.wrap (v8)))))) * 4294967296)) + (shrI .u64 (shlI .u64 a2 (IntKind.u64.wrap (v8))) 32))) - (IntKind.u64.wrap (o20 * (shlI .u64 a3 (IntKind.u64.wrap (v8)))))))))), (18, vc (.val (.int .u64 x23)))], []⟩
def NA (a1 : Int) (a2 : Int) (a3 : Int) (v8 : Int) (o20 : Int) (x28 : Int) : St :=
 ⟨[(2, vc (.val (.int .u64 (shlI .u64 a3 (IntKind.u64.wrap (v8)))))), (8, vc (.val (.int .u64 (IntKind.u64.wrap (v8))))), (14, vc (.val (.int .u64 (andI .u64 (shlI .u64 a2 (IntKind.u64.wrap (v8))) 4294967295)))), (15, vc (.val (.int .u64 o20))), (17, vc (.val (.int .u64 (IntKind.u64.wrap ((IntKind.u64.wrap ((IntKind.u64.wrap ((orI .u64 (shlI .u64 a1 (IntKind.u64.wrap (v8))) (shrI .u64 a2 (IntKind.u64.wrap (64 - (IntKind.u64.wrap (v8)))))) * 4294967296)) + (shrI .u64 (shlI .u64 a2 (IntKind.u64.wrap (v8))) 32))) - (IntKind.u64.wrap (o20 * (shlI .u64 a3 (IntKind.u64.wrap (v8)))))))))), (18, vc (.val (.int .u64 x28)))], []⟩
theorem IZ (E : Env 0) (a1 : Int) (a2 : Int) (a3 : Int) (v8 : Int) : ∀ (n : Nat) (x13 : Int) (x14 : Int) (res : Int), ZL a2 a3 v8 n x13 x14 = some res → HL (kx E 135 0) (nd Try.f47 262136) (jU 0 (fun o => BY a1 a2 a3 v8 o) res) n (PF a1 a2 a3 v8 x13 x14) := by
 intro n
 induction n with
 | zero =>
  intro x13 x14 res hm
  cases hm
 | succ n ih =>
  intro x13 x14 res hm
  refine qT ?_
  refine q_sq ?_
  refine q_jn (ι := Bool) (fun p => BH a1 a2 a3 v8 x13 x14 p) (fun p => TU a3 v8 x13 x14 (ZL a2 a3 v8 n) p = some res) ?_ ?_
  ·rintro x16 hm
   show H _ (BH a1 a2 a3 v8 x13 x14 x16) _ _
   refine q_cn x16 (fun b17 => ?_) (fun b17 => ?_)
   ·replace hm := qA b17 hm
    refine q_sk ?_
    refine q_bk 1 ?_
    refine q_sq ?_
    refine q_vu [] 0 [15, 78] [(15, vc (.val (.int .u64 (IntKind.u64.wrap (x13 - 1)))))] [] [] ?_
    refine q_sq ?_
    refine q_vu [] 0 [16] [(16, vc (.val (.int .u64 (IntKind.u64.wrap (x14 + (shrI .u64 (shlI .u64 a3 (IntKind.u64.wrap (v8))) 32))))))] [] [] ?_
    refine q_sq ?_
    refine q_vu [] 0 [] [(85, vb (decide ((IntKind.u64.wrap (x14 + (shrI .u64 (shlI .u64 a3 (IntKind.u64.wrap (v8))) 32))) ≥ 4294967296)))] [] [] ?_
    refine q_cn (decide ((IntKind.u64.wrap (x14 + (shrI .u64 (shlI .u64 a3 (IntKind.u64.wrap (v8))) 32))) ≥ 4294967296)) (fun b18 => ?_) (fun b18 => ?_)
    ·replace hm := qA b18 hm
     refine q_ex 0 ?_
     obtain rfl := Option.some.inj hm
     exact ZP (by kernel_rfl) (by kernel_rfl)
    ·replace hm := qB b18 hm
     refine q_sk ?_
     exact q_hl (PF a1 a2 a3 v8 (IntKind.u64.wrap (x13 - 1)) (IntKind.u64.wrap (x14 + (shrI .u64 (shlI .u64 a3 (IntKind.u64.wrap (v8))) 32)))) (ih (IntKind.u64.wrap (x13 - 1)) (IntKind.u64.wrap (x14 + (shrI .u64 (shlI .u64 a3 (IntKind.u64.wrap (v8))) 32))) _ hm)
   ·replace hm := qB b17 hm
    refine q_ex 0 ?_
    obtain rfl := Option.some.inj hm
    exact ZP (by kernel_rfl) (by kernel_rfl)
  ·rcases Bool.eq_false_or_eq_true (decide (x13 ≥ 4294967296)) with b15 | b15
   ·replace hm := qA b15 hm
    refine q_vu [qf 2 b15] 0 [] [(78, vb true)] [] [] ?_
    exact q_J (true) hm
   ·replace hm := qB b15 hm
    refine q_vu [qf 2 b15] 0 [] [(78, vb (decide ((IntKind.u64.wrap (x13 * (andI .u64 (shlI .u64 a3 (IntKind.u64.wrap (v8))) 4294967295))) > (IntKind.u64.wrap ((IntKind.u64.wrap (4294967296 * x14)) + (shrI .u64 (shlI .u64 a2 (IntKind.u64.wrap (v8))) 32))))))] [] [] ?_
    exact q_J (decide ((IntKind.u64.wrap (x13 * (andI .u64 (shlI .u64 a3 (IntKind.u64.wrap (v8))) 4294967295))) > (IntKind.u64.wrap ((IntKind.u64.wrap (4294967296 * x14)) + (shrI .u64 (shlI .u64 a2 (IntKind.u64.wrap (v8))) 32))))) hm
theorem OM (E : Env 0) (a1 : Int) (a2 : Int) (a3 : Int) (v8 : Int) (o20 : Int) : ∀ (n : Nat) (x22 : Int) (x23 : Int) (res : Int), ZJ a2 a3 v8 n x22 x23 = some res → HL (kx E 135 0) (nd Try.f47 4194296) (jU 2 (fun o => NA a1 a2 a3 v8 o20 o) res) n (PH a1 a2 a3 v8 o20 x22 x23) := by
 intro n
 induction n with
 | zero =>
  intro x22 x23 res hm
  cases hm
 | succ n ih =>
  intro x22 x23 res hm
  refine qT ?_
  refine q_sq ?_
  refine q_jn (ι := Bool) (fun p => NJ a1 a2 a3 v8 o20 x22 x23 p) (fun p => TW a3 v8 x22 x23 (ZJ a2 a3 v8 n) p = some res) ?_ ?_
  ·rintro x25 hm
   show H _ (NJ a1 a2 a3 v8 o20 x22 x23 x25) _ _
   refine q_cn x25 (fun b26 => ?_) (fun b26 => ?_)
   ·replace hm := qA b26 hm
    refine q_sk ?_
    refine q_bk 3 ?_
    refine q_sq ?_
    refine q_vu [] 0 [18, 113] [(18, vc (.val (.int .u64 (IntKind.u64.wrap (x23 - 1)))))] [] [] ?_
    refine q_sq ?_
    refine q_vu [] 0 [16] [(16, vc (.val (.int .u64 (IntKind.u64.wrap (x22 + (shrI .u64 (shlI .u64 a3 (IntKind.u64.wrap (v8))) 32))))))] [] [] ?_
    refine q_sq ?_
    refine q_vu [] 0 [] [(120, vb (decide ((IntKind.u64.wrap (x22 + (shrI .u64 (shlI .u64 a3 (IntKind.u64.wrap (v8))) 32))) ≥ 4294967296)))] [] [] ?_
    refine q_cn (decide ((IntKind.u64.wrap (x22 + (shrI .u64 (shlI .u64 a3 (IntKind.u64.wrap (v8))) 32))) ≥ 4294967296)) (fun b27 => ?_) (fun b27 => ?_)
    ·replace hm := qA b27 hm
     refine q_ex 2 ?_
     obtain rfl := Option.some.inj hm
     exact ZP (by kernel_rfl) (by kernel_rfl)
    ·replace hm := qB b27 hm
     refine q_sk ?_
     exact q_hl (PH a1 a2 a3 v8 o20 (IntKind.u64.wrap (x22 + (shrI .u64 (shlI .u64 a3 (IntKind.u64.wrap (v8))) 32))) (IntKind.u64.wrap (x23 - 1))) (ih (IntKind.u64.wrap (x22 + (shrI .u64 (shlI .u64 a3 (IntKind.u64.wrap (v8))) 32))) (IntKind.u64.wrap (x23 - 1)) _ hm)
   ·replace hm := qB b26 hm
    refine q_ex 2 ?_
    obtain rfl := Option.some.inj hm
    exact ZP (by kernel_rfl) (by kernel_rfl)
  ·rcases Bool.eq_false_or_eq_true (decide (x23 ≥ 4294967296)) with b24 | b24
   ·replace hm := qA b24 hm
    refine q_vu [qf 2 b24] 0 [] [(113, vb true)] [] [] ?_
    exact q_J (true) hm
   ·replace hm := qB b24 hm
    refine q_vu [qf 2 b24] 0 [] [(113, vb (decide ((IntKind.u64.wrap (x23 * (andI .u64 (shlI .u64 a3 (IntKind.u64.wrap (v8))) 4294967295))) > (IntKind.u64.wrap ((IntKind.u64.wrap (4294967296 * x22)) + (andI .u64 (shlI .u64 a2 (IntKind.u64.wrap (v8))) 4294967295))))))] [] [] ?_
    exact q_J (decide ((IntKind.u64.wrap (x23 * (andI .u64 (shlI .u64 a3 (IntKind.u64.wrap (v8))) 4294967295))) > (IntKind.u64.wrap ((IntKind.u64.wrap (4294967296 * x22)) + (andI .u64 (shlI .u64 a2 (IntKind.u64.wrap (v8))) 4294967295))))) hm
theorem qAq (a1 : Int) (a2 : Int) (a3 : Int) (r : Int × Int) (hm : RT a1 a2 a3 = some r) : CtX Try.prog globs 47 0 0 [.one (.val (.int .u64 a1)), .one (.val (.int .u64 a2)), .one (.val (.int .u64 a3))] [] (qBJ r) (qBB r) := by
 unfold RT at hm
 refine q_E Try.f47 135 fun E => ?_
 refine q_sq ?_
 refine q_vn [] 0 ⟨[(0, vc (.val (.int .u64 a1))), (1, vc (.val (.int .u64 a2))), (2, vc (.val (.int .u64 a3)))], []⟩ ?_
 refine q_sq ?_
 refine q_sq ?_
 refine q_vu [] 0 [] [(20, vb (a3 == 0))] [] [] ?_
 refine q_cn (a3 == 0) (fun b4 => ?_) (fun b4 => ?_)
 ·replace hm := qA b4 hm
  cases hm
 ·replace hm := qB b4 hm
  refine q_sk ?_
  refine q_sq ?_
  refine q_sq ?_
  refine q_vu [] 0 [20] [(24, vb (decide (a3 ≤ a1)))] [] [] ?_
  refine q_cn (decide (a3 ≤ a1)) (fun b5 => ?_) (fun b5 => ?_)
  ·replace hm := qA b5 hm
   cases hm
  ·replace hm := qB b5 hm
   refine q_sk ?_
   refine q_sq ?_
   refine q_sq ?_
   refine q_vu [] 0 [24] [(27, vb (a1 == 0))] [] [] ?_
   refine q_cn (a1 == 0) (fun b6 => ?_) (fun b6 => ?_)
   ·replace hm := qA b6 hm
    refine q_sq ?_
    obtain ⟨g7, hm⟩ := qP hm
    refine q_dn [qd 2 (Dir.none) (qBq g7), qd 5 (Dir.none) (qBq g7)] [0, 0, 3, 0, 0, 24, 7, 127] 0 ⟨[(6, vc (.val (.int .u64 (IntKind.u64.wrap (Int.tdiv a2 a3))))), (7, vc (.val (.int .u64 (Int.tmod a2 a3))))], []⟩ ?_
    obtain rfl := Option.some.inj hm
    refine q_rt ?_
    exact q_rm
   ·replace hm := qB b6 hm
    refine q_sk ?_
    refine q_sq ?_
    obtain ⟨v8, h9, hm⟩ := qC hm
    refine q_vu [qc 1 [34] 0 (LG a3 v8 h9)] 0 [27] [(8, vc (.val (.int .u64 (IntKind.u64.wrap (v8)))))] [] [] ?_
    refine q_sq ?_
    obtain ⟨g10, hm⟩ := qP hm
    refine q_vu [qd 2 (Dir.none) (IW g10)] 0 [2] [(2, vc (.val (.int .u64 (shlI .u64 a3 (IntKind.u64.wrap (v8))))))] [] [] ?_
    refine q_sq ?_
    refine q_vu [qd 1 (Dir.none) (show ¬ (32 : Int) < 0 by decide)] 0 [] [(9, vc (.val (.int .u64 (shrI .u64 (shlI .u64 a3 (IntKind.u64.wrap (v8))) 32))))] [] [] ?_
    refine q_sq ?_
    refine q_vu [] 0 [] [(10, vc (.val (.int .u64 (andI .u64 (shlI .u64 a3 (IntKind.u64.wrap (v8))) 4294967295))))] [] [] ?_
    refine q_sq ?_
    obtain ⟨g11, hm⟩ := qP hm
    refine q_vu [qd 2 (Dir.none) (IW g10), qd 6 (Dir.none) (IW g11)] 0 [0] [(11, vc (.val (.int .u64 (orI .u64 (shlI .u64 a1 (IntKind.u64.wrap (v8))) (shrI .u64 a2 (IntKind.u64.wrap (64 - (IntKind.u64.wrap (v8)))))))))] [] [] ?_
    refine q_sq ?_
    refine q_vu [qd 2 (Dir.none) (IW g10)] 0 [1] [(12, vc (.val (.int .u64 (shlI .u64 a2 (IntKind.u64.wrap (v8))))))] [] [] ?_
    refine q_sq ?_
    refine q_vu [qd 1 (Dir.none) (show ¬ (32 : Int) < 0 by decide)] 0 [] [(13, vc (.val (.int .u64 (shrI .u64 (shlI .u64 a2 (IntKind.u64.wrap (v8))) 32))))] [] [] ?_
    refine q_sq ?_
    refine q_vu [] 0 [12] [(14, vc (.val (.int .u64 (andI .u64 (shlI .u64 a2 (IntKind.u64.wrap (v8))) 4294967295))))] [] [] ?_
    refine q_sq ?_
    obtain ⟨g12, hm⟩ := qP hm
    refine q_vu [qd 2 (Dir.none) (qBq g12)] 0 [] [(15, vc (.val (.int .u64 (IntKind.u64.wrap (Int.tdiv (orI .u64 (shlI .u64 a1 (IntKind.u64.wrap (v8))) (shrI .u64 a2 (IntKind.u64.wrap (64 - (IntKind.u64.wrap (v8)))))) (shrI .u64 (shlI .u64 a3 (IntKind.u64.wrap (v8))) 32))))))] [] [] ?_
    refine q_sq ?_
    refine q_vu [] 0 [] [(16, vc (.val (.int .u64 (IntKind.u64.wrap ((orI .u64 (shlI .u64 a1 (IntKind.u64.wrap (v8))) (shrI .u64 a2 (IntKind.u64.wrap (64 - (IntKind.u64.wrap (v8)))))) - (IntKind.u64.wrap ((IntKind.u64.wrap (Int.tdiv (orI .u64 (shlI .u64 a1 (IntKind.u64.wrap (v8))) (shrI .u64 a2 (IntKind.u64.wrap (64 - (IntKind.u64.wrap (v8)))))) (shrI .u64 (shlI .u64 a3 (IntKind.u64.wrap (v8))) 32))) * (shrI .u64 (shlI .u64 a3 (IntKind.u64.wrap (v8))) 32))))))))] [] [] ?_
    refine q_sq ?_
    obtain ⟨o20, h21, hm⟩ := qC hm
    refine jL (nd Try.f47 262136) 0 (by kernel_rfl) FUEL (fun o => BY a1 a2 a3 v8 o) o20 (q_hl (PF a1 a2 a3 v8 (IntKind.u64.wrap (Int.tdiv (orI .u64 (shlI .u64 a1 (IntKind.u64.wrap (v8))) (shrI .u64 a2 (IntKind.u64.wrap (64 - (IntKind.u64.wrap (v8)))))) (shrI .u64 (shlI .u64 a3 (IntKind.u64.wrap (v8))) 32))) (IntKind.u64.wrap ((orI .u64 (shlI .u64 a1 (IntKind.u64.wrap (v8))) (shrI .u64 a2 (IntKind.u64.wrap (64 - (IntKind.u64.wrap (v8)))))) - (IntKind.u64.wrap ((IntKind.u64.wrap (Int.tdiv (orI .u64 (shlI .u64 a1 (IntKind.u64.wrap (v8))) (shrI .u64 a2 (IntKind.u64.wrap (64 - (IntKind.u64.wrap (v8)))))) (shrI .u64 (shlI .u64 a3 (IntKind.u64.wrap (v8))) 32))) * (shrI .u64 (shlI .u64 a3 (IntKind.u64.wrap (v8))) 32)))))) (IZ E a1 a2 a3 v8 FUEL (IntKind.u64.wrap (Int.tdiv (orI .u64 (shlI .u64 a1 (IntKind.u64.wrap (v8))) (shrI .u64 a2 (IntKind.u64.wrap (64 - (IntKind.u64.wrap (v8)))))) (shrI .u64 (shlI .u64 a3 (IntKind.u64.wrap (v8))) 32))) (IntKind.u64.wrap ((orI .u64 (shlI .u64 a1 (IntKind.u64.wrap (v8))) (shrI .u64 a2 (IntKind.u64.wrap (64 - (IntKind.u64.wrap (v8)))))) - (IntKind.u64.wrap ((IntKind.u64.wrap (Int.tdiv (orI .u64 (shlI .u64 a1 (IntKind.u64.wrap (v8))) (shrI .u64 a2 (IntKind.u64.wrap (64 - (IntKind.u64.wrap (v8)))))) (shrI .u64 (shlI .u64 a3 (IntKind.u64.wrap (v8))) 32))) * (shrI .u64 (shlI .u64 a3 (IntKind.u64.wrap (v8))) 32))))) o20 h21)) ?_
    refine q_sq ?_
    refine q_vu [] 0 [11, 13] [(17, vc (.val (.int .u64 (IntKind.u64.wrap ((IntKind.u64.wrap ((IntKind.u64.wrap ((orI .u64 (shlI .u64 a1 (IntKind.u64.wrap (v8))) (shrI .u64 a2 (IntKind.u64.wrap (64 - (IntKind.u64.wrap (v8)))))) * 4294967296)) + (shrI .u64 (shlI .u64 a2 (IntKind.u64.wrap (v8))) 32))) - (IntKind.u64.wrap (o20 * (shlI .u64 a3 (IntKind.u64.wrap (v8))))))))))] [] [] ?_
    refine q_sq ?_
    refine q_vu [qd 2 (Dir.none) (qBq g12)] 0 [] [(18, vc (.val (.int .u64 (IntKind.u64.wrap (Int.tdiv (IntKind.u64.wrap ((IntKind.u64.wrap ((IntKind.u64.wrap ((orI .u64 (shlI .u64 a1 (IntKind.u64.wrap (v8))) (shrI .u64 a2 (IntKind.u64.wrap (64 - (IntKind.u64.wrap (v8)))))) * 4294967296)) + (shrI .u64 (shlI .u64 a2 (IntKind.u64.wrap (v8))) 32))) - (IntKind.u64.wrap (o20 * (shlI .u64 a3 (IntKind.u64.wrap (v8))))))) (shrI .u64 (shlI .u64 a3 (IntKind.u64.wrap (v8))) 32))))))] [] [] ?_
    refine q_sq ?_
    refine q_vu [] 0 [] [(16, vc (.val (.int .u64 (IntKind.u64.wrap ((IntKind.u64.wrap ((IntKind.u64.wrap ((IntKind.u64.wrap ((orI .u64 (shlI .u64 a1 (IntKind.u64.wrap (v8))) (shrI .u64 a2 (IntKind.u64.wrap (64 - (IntKind.u64.wrap (v8)))))) * 4294967296)) + (shrI .u64 (shlI .u64 a2 (IntKind.u64.wrap (v8))) 32))) - (IntKind.u64.wrap (o20 * (shlI .u64 a3 (IntKind.u64.wrap (v8))))))) - (IntKind.u64.wrap ((IntKind.u64.wrap (Int.tdiv (IntKind.u64.wrap ((IntKind.u64.wrap ((IntKind.u64.wrap ((orI .u64 (shlI .u64 a1 (IntKind.u64.wrap (v8))) (shrI .u64 a2 (IntKind.u64.wrap (64 - (IntKind.u64.wrap (v8)))))) * 4294967296)) + (shrI .u64 (shlI .u64 a2 (IntKind.u64.wrap (v8))) 32))) - (IntKind.u64.wrap (o20 * (shlI .u64 a3 (IntKind.u64.wrap (v8))))))) (shrI .u64 (shlI .u64 a3 (IntKind.u64.wrap (v8))) 32))) * (shrI .u64 (shlI .u64 a3 (IntKind.u64.wrap (v8))) 32))))))))] [] [] ?_
    refine q_sq ?_
    obtain ⟨o29, h30, hm⟩ := qC hm
    refine jL (nd Try.f47 4194296) 2 (by kernel_rfl) FUEL (fun o => NA a1 a2 a3 v8 o20 o) o29 (q_hl (PH a1 a2 a3 v8 o20 (IntKind.u64.wrap ((IntKind.u64.wrap ((IntKind.u64.wrap ((IntKind.u64.wrap ((orI .u64 (shlI .u64 a1 (IntKind.u64.wrap (v8))) (shrI .u64 a2 (IntKind.u64.wrap (64 - (IntKind.u64.wrap (v8)))))) * 4294967296)) + (shrI .u64 (shlI .u64 a2 (IntKind.u64.wrap (v8))) 32))) - (IntKind.u64.wrap (o20 * (shlI .u64 a3 (IntKind.u64.wrap (v8))))))) - (IntKind.u64.wrap ((IntKind.u64.wrap (Int.tdiv (IntKind.u64.wrap ((IntKind.u64.wrap ((IntKind.u64.wrap ((orI .u64 (shlI .u64 a1 (IntKind.u64.wrap (v8))) (shrI .u64 a2 (IntKind.u64.wrap (64 - (IntKind.u64.wrap (v8)))))) * 4294967296)) + (shrI .u64 (shlI .u64 a2 (IntKind.u64.wrap (v8))) 32))) - (IntKind.u64.wrap (o20 * (shlI .u64 a3 (IntKind.u64.wrap (v8))))))) (shrI .u64 (shlI .u64 a3 (IntKind.u64.wrap (v8))) 32))) * (shrI .u64 (shlI .u64 a3 (IntKind.u64.wrap (v8))) 32))))) (IntKind.u64.wrap (Int.tdiv (IntKind.u64.wrap ((IntKind.u64.wrap ((IntKind.u64.wrap ((orI .u64 (shlI .u64 a1 (IntKind.u64.wrap (v8))) (shrI .u64 a2 (IntKind.u64.wrap (64 - (IntKind.u64.wrap (v8)))))) * 4294967296)) + (shrI .u64 (shlI .u64 a2 (IntKind.u64.wrap (v8))) 32))) - (IntKind.u64.wrap (o20 * (shlI .u64 a3 (IntKind.u64.wrap (v8))))))) (shrI .u64 (shlI .u64 a3 (IntKind.u64.wrap (v8))) 32)))) (OM E a1 a2 a3 v8 o20 FUEL (IntKind.u64.wrap ((IntKind.u64.wrap ((IntKind.u64.wrap ((IntKind.u64.wrap ((orI .u64 (shlI .u64 a1 (IntKind.u64.wrap (v8))) (shrI .u64 a2 (IntKind.u64.wrap (64 - (IntKind.u64.wrap (v8)))))) * 4294967296)) + (shrI .u64 (shlI .u64 a2 (IntKind.u64.wrap (v8))) 32))) - (IntKind.u64.wrap (o20 * (shlI .u64 a3 (IntKind.u64.wrap (v8))))))) - (IntKind.u64.wrap ((IntKind.u64.wrap (Int.tdiv (IntKind.u64.wrap ((IntKind.u64.wrap ((IntKind.u64.wrap ((orI .u64 (shlI .u64 a1 (IntKind.u64.wrap (v8))) (shrI .u64 a2 (IntKind.u64.wrap (64 - (IntKind.u64.wrap (v8)))))) * 4294967296)) + (shrI .u64 (shlI .u64 a2 (IntKind.u64.wrap (v8))) 32))) - (IntKind.u64.wrap (o20 * (shlI .u64 a3 (IntKind.u64.wrap (v8))))))) (shrI .u64 (shlI .u64 a3 (IntKind.u64.wrap (v8))) 32))) * (shrI .u64 (shlI .u64 a3 (IntKind.u64.wrap (v8))) 32))))) (IntKind.u64.wrap (Int.tdiv (IntKind.u64.wrap ((IntKind.u64.wrap ((IntKind.u64.wrap ((orI .u64 (shlI .u64 a1 (IntKind.u64.wrap (v8))) (shrI .u64 a2 (IntKind.u64.wrap (64 - (IntKind.u64.wrap (v8)))))) * 4294967296)) + (shrI .u64 (shlI .u64 a2 (IntKind.u64.wrap (v8))) 32))) - (IntKind.u64.wrap (o20 * (shlI .u64 a3 (IntKind.u64.wrap (v8))))))) (shrI .u64 (shlI .u64 a3 (IntKind.u64.wrap (v8))) 32))) o29 h30)) ?_
    refine q_sq ?_
    refine q_vn [qd 13 (Dir.none) (IW g10)] 0 ⟨[(6, vc (.val (.int .u64 (IntKind.u64.wrap ((IntKind.u64.wrap (o20 * 4294967296)) + o29))))), (7, vc (.val (.int .u64 (shrI .u64 (IntKind.u64.wrap ((IntKind.u64.wrap ((IntKind.u64.wrap ((IntKind.u64.wrap ((IntKind.u64.wrap ((IntKind.u64.wrap ((orI .u64 (shlI .u64 a1 (IntKind.u64.wrap (v8))) (shrI .u64 a2 (IntKind.u64.wrap (64 - (IntKind.u64.wrap (v8)))))) * 4294967296)) + (shrI .u64 (shlI .u64 a2 (IntKind.u64.wrap (v8))) 32))) - (IntKind.u64.wrap (o20 * (shlI .u64 a3 (IntKind.u64.wrap (v8))))))) * 4294967296)) + (andI .u64 (shlI .u64 a2 (IntKind.u64.wrap (v8))) 4294967295))) - (IntKind.u64.wrap (o29 * (shlI .u64 a3 (IntKind.u64.wrap (v8))))))) (IntKind.u64.wrap (v8))))))], []⟩ ?_
    obtain rfl := Option.some.inj hm
    refine q_rt ?_
    exact q_rm
end Saw
end Go.SL
