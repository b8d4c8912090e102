import Derived.Test.YtjobdnkaonbgnaaGreatEBase
import Derived.Test.YtjobdnkaonbgnaaGreatEFa7
import Derived.Test.YtjobdnkaonbgnaaGreatEFa10
import Derived.Test.YtjobdnkaonbgnaaGreatEFa11
set_option linter.unusedVariables false
set_option linter.unusedSimpArgs false
namespace Go.SL
namespace Saw
open Go.Proofs
set_option maxHeartbeats 4000000
set_option maxRecDepth 100000
def qO5 (r : Yield × Int) : V := .tup [.agg (wG r.1), .one (ci r.2)]
def qOD (r : Yield × Int) : List (Nat × (Nat × O)) := []
def CL (a1 : List Slice) (a5 : Saw) (a6 : Rates) (v10 : (List Ref22_Cut) × Int) (v12 : (List Rect) × Int) (v14 : Int) (x16 : Int) (x17 : Int) (x18 : Int) (x19 : Int) : St :=
 ⟨[(0, vc (tl qH default a1)), (10, vp 1 0), (11, vp 2 0), (12, vp 3 0), (15, vo 4 0 9 v10.1.length), (17, vo 5 0 4 v12.1.length), (19, vp 6 0), (20, vi x16), (21, vi x17)], [(1, bx 33 (zZ a5)), (2, bx 35 (wM a6)), (3, bx 50 [ci 0, ci 0, ci 0, ci 0, ci 0]), (4, ro 0 81 9 v10.1.length (rf wF v10.1)), (5, ro 0 28 4 v12.1.length (rf qE v12.1)), (6, bx 50 [ci v14, ci x18, ci 0, ci x19, ci 0])]⟩
def qEn (a1 : List Slice) (a6 : Rates) (v12 : (List Rect) × Int) (x26 : Int) (x27 : Yield) : St :=
 ⟨[(0, vc (tl qH default a1)), (11, vp 2 0), (12, vp 3 0), (17, vo 5 0 4 v12.1.length), (19, vp 6 0), (20, vi x26)], [(2, bx 35 (wM a6)), (3, bx 50 [ci 0, ci 0, ci 0, ci 0, ci 0]), (5, ro 0 28 4 v12.1.length (rf qE v12.1)), (6, bx 50 (wG x27))]⟩
def CA (a1 : List Slice) (a6 : Rates) (v12 : (List Rect) × Int) (o28 : Int × Yield) (x30 : Int) (x31 : Int) : St :=
 ⟨[(0, vc (tl qH default a1)), (11, vp 2 0), (12, vp 3 0), (17, vo 5 0 4 v12.1.length), (19, vp 6 0), (20, vi o28.1), (22, vi x30)], [(2, bx 35 (wM a6)), (3, bx 50 [ci 0, ci 0, ci 0, ci 0, ci 0]), (5, ro 0 28 4 v12.1.length (rf qE v12.1)), (6, bx 50 [ci o28.2.Log, ci o28.2.Boards, ci o28.2.Chips, ci x31, ci o28.2.Value])]⟩
def qEf (a6 : Rates) (o28 : Int × Yield) (x38 : Yield) : St :=
 ⟨[(11, vp 2 0), (12, vp 3 0), (19, vp 6 0), (20, vi o28.1)], [(2, bx 35 (wM a6)), (3, bx 50 [ci 0, ci 0, ci 0, ci 0, ci 0]), (6, bx 50 (wG x38))]⟩
theorem qJm (E : Env 0) (a1 : List Slice) (a5 : Saw) (a6 : Rates) (v10 : (List Ref22_Cut) × Int) (v12 : (List Rect) × Int) (v14 : Int) : ∀ (n : Nat) (x16 : Int) (x17 : Int) (x18 : Int) (x19 : Int) (res : Int × Yield), PL a1 a5 v10 v14 n x16 x17 x18 x19 = some res → HL (kx E 135 0) (nd Tryz.f12 2036) (wC 0 (fun o => qEn a1 a6 v12 o.1 o.2) res) n (CL a1 a5 a6 v10 v12 v14 x16 x17 x18 x19) := by
 intro n
 induction n with
 | zero =>
  intro x16 x17 x18 x19 res hm
  cases hm
 | succ n ih =>
  intro x16 x17 x18 x19 res hm
  refine qQ ?_
  refine q_sq ?_
  refine s_vu [] 7 [] [(58, vb (decide (x17 < ((v10.1.length : Nat) : Int))))] [] [] ?_
  refine q_cn (decide (x17 < ((v10.1.length : Nat) : Int))) (fun b20 => ?_) (fun b20 => ?_)
  ·replace hm := qB b20 hm
   refine q_sk ?_
   refine q_sq ?_
   refine q_bk 1 ?_
   obtain ⟨g21, hm⟩ := qM hm
   obtain ⟨v22, h23, hm⟩ := qD hm
   refine s_du [qd 5 (Dir.none) (inb_of g21), qd 7 (Dir.none) (toNat_lt (inb_of g21)), qc 8 [63, 68] 7 (GK a1 ((v10.1.getD x17.toNat default).Box) v22 h23)] [0, 1, 0, 0, 0, 24, 56, 120, 252, 511, 1023, 2047] 7 [58] [] [6] [(6, bx 50 [ci v14, ci (w64 (x18 + v22)), ci 0, ci x19, ci 0])] ?_
   obtain ⟨v24, h25, hm⟩ := qD hm
   refine s_du [qd 5 (Dir.none) (inb_of g21), qd 7 (Dir.none) (toNat_lt (inb_of g21)), qc 10 [74, 79, 81] 7 (qGM a1 ((v10.1.getD x17.toNat default).Box) a5.Trim v24 h25)] [0, 1, 0, 0, 0, 24, 56, 120, 0, 256, 1020, 2047, 4095, 8191] 7 [] [] [6] [(6, bx 50 [ci v14, ci (w64 (x18 + v22)), ci 0, ci (w64 (x19 + v24)), ci 0])] ?_
   refine q_vu [qd 3 (Dir.none) (inb_of g21), qd 5 (Dir.none) (toNat_lt (inb_of g21))] 7 [20] [(20, vi (w64 (x16 + ((v10.1.getD x17.toNat default).Worth))))] [] [] ?_
   refine q_vu [] 7 [21] [(21, vi (w64 (x17 + 1)))] [] [] ?_
   exact q_hl (CL a1 a5 a6 v10 v12 v14 (w64 (x16 + ((v10.1.getD x17.toNat default).Worth))) (w64 (x17 + 1)) (w64 (x18 + v22)) (w64 (x19 + v24))) (ih (w64 (x16 + ((v10.1.getD x17.toNat default).Worth))) (w64 (x17 + 1)) (w64 (x18 + v22)) (w64 (x19 + v24)) _ hm)
  ·replace hm := qC b20 hm
   refine q_ex 0 ?_
   obtain rfl := oi hm
   exact jP (by kernel_rfl) (by kernel_rfl)
theorem qJo (E : Env 0) (a1 : List Slice) (a6 : Rates) (v12 : (List Rect) × Int) (o28 : Int × Yield) : ∀ (n : Nat) (x30 : Int) (x31 : Int) (res : Yield), PO a1 v12 o28 n x30 x31 = some res → HL (kx E 135 0) (nd Tryz.f12 4084) (wC 2 (fun o => qEf a6 o28 o) res) n (CA a1 a6 v12 o28 x30 x31) := by
 intro n
 induction n with
 | zero =>
  intro x30 x31 res hm
  cases hm
 | succ n ih =>
  intro x30 x31 res hm
  refine qQ ?_
  refine q_sq ?_
  refine s_vu [] 7 [] [(95, vb (decide (x30 < ((v12.1.length : Nat) : Int))))] [] [] ?_
  refine q_cn (decide (x30 < ((v12.1.length : Nat) : Int))) (fun b32 => ?_) (fun b32 => ?_)
  ·replace hm := qB b32 hm
   refine q_sk ?_
   refine q_sq ?_
   refine q_bk 3 ?_
   obtain ⟨g33, hm⟩ := qM hm
   obtain ⟨v34, h35, hm⟩ := qD hm
   obtain ⟨v36, h37, hm⟩ := qD hm
   refine q_du [qd 6 (Dir.none) (inb_of g33), qd 7 (Dir.none) (toNat_lt (inb_of g33)), qc 8 [101, 105] 7 (qJ6 a1 (v12.1.getD x30.toNat default) v34 h35), qc 9 [100, 106] 7 (GK a1 v34 v36 h37)] [0, 1, 0, 0, 0, 0, 48, 112, 248, 508, 1023, 2047, 4095] 7 [95] [] [6] [(6, bx 50 [ci o28.2.Log, ci o28.2.Boards, ci o28.2.Chips, ci (w64 (x31 + v36)), ci o28.2.Value])] ?_
   refine q_vu [] 7 [22] [(22, vi (w64 (x30 + 1)))] [] [] ?_
   exact q_hl (CA a1 a6 v12 o28 (w64 (x30 + 1)) (w64 (x31 + v36))) (ih (w64 (x30 + 1)) (w64 (x31 + v36)) _ hm)
  ·replace hm := qC b32 hm
   refine q_ex 2 ?_
   obtain rfl := oi hm
   exact jP (by kernel_rfl) (by kernel_rfl)
theorem qNP (a1 : List Slice) (a2 : List Defect) (a3 : List Product) (a4 : Pattern) (a5 : Saw) (a6 : Rates) (r : Yield × Int) (hm : MR a1 a2 a3 a4 a5 a6 = some r) : CtX Tryz.prog globs 12 0 0 [.one (tl qH default a1), .one (tl qI default a2), .one (tl qA default a3), .agg (qF a4), .agg (zZ a5), .agg (wM a6)] [] (qO5 r) (qOD r) := by
 unfold MR at hm
 refine q_E Tryz.f12 135 fun E => ?_
 refine s_vn [] 0 ⟨[(0, vc (tl qH default a1)), (1, vc (tl qI default a2)), (2, vc (tl qA default a3)), (9, vp 0 0), (10, vp 1 0), (11, vp 2 0), (12, vp 3 0)], [(0, bx 31 (qF a4)), (1, bx 33 (zZ a5)), (2, bx 35 (wM a6)), (3, bx 50 [ci 0, ci 0, ci 0, ci 0, ci 0])]⟩ ?_
 refine q_sq ?_
 obtain ⟨v7, h8, hm⟩ := qD hm
 refine s_vu [qc 6 [23, 24, 25, 26, 27, 28] 4 (qDg a1 a2 a3 a4 a5 a6 v7 h8)] 4 [] [(14, vi v7)] [] [] ?_
 refine s_vu [] 4 [] [(31, vb (v7 != 0))] [] [] ?_
 refine q_cn (v7 != 0) (fun b9 => ?_) (fun b9 => ?_)
 ·replace hm := qB b9 hm
  refine s_vu [] 4 [0, 1, 2, 9, 10, 11, 14, 31] [(13, vi v7)] [0, 1, 2] [] ?_
  obtain rfl := oi hm
  refine q_rt ?_
  exact q_rm
 ·replace hm := qC b9 hm
  refine q_sk ?_
  obtain ⟨v10, h11, hm⟩ := qD hm
  refine s_vu [qc 7 [35, 36, 37, 38, 39, 41] 4 (qIt a1 a2 a3 a4 a5 a6.Fine v10 h11)] 4 [1, 2, 14, 31] [(15, vo 4 0 9 v10.1.length)] [] [(4, ro 0 81 9 v10.1.length (rf wF v10.1))] ?_
  obtain ⟨v12, h13, hm⟩ := qD hm
  refine s_vu [qc 3 [46, 48] 5 (qLJ a4 a5.Kerf v12 h13)] 5 [9] [(17, vo 5 0 4 v12.1.length)] [0] [(5, ro 0 28 4 v12.1.length (rf qE v12.1))] ?_
  obtain ⟨v14, h15, hm⟩ := qD hm
  refine s_vu [qc 1 [52] 6 (qHU a1 v14 h15)] 6 [] [(19, vp 6 0)] [] [(6, bx 50 [ci v14, ci 0, ci 0, ci 0, ci 0])] ?_
  refine s_vu [] 7 [] [(20, vi 0)] [] [] ?_
  refine q_sq ?_
  refine s_vu [] 7 [] [(21, vi 0)] [] [] ?_
  obtain ⟨o28, h29, hm⟩ := qD hm
  refine zX (nd Tryz.f12 2036) 0 (by kernel_rfl) FUEL (fun o => qEn a1 a6 v12 o.1 o.2) o28 (q_hl (CL a1 a5 a6 v10 v12 v14 0 0 0 0) (qJm E a1 a5 a6 v10 v12 v14 FUEL 0 0 0 0 o28 h29)) ?_
  refine q_sq ?_
  refine s_vu [] 7 [] [(22, vi 0)] [] [] ?_
  obtain ⟨o39, h40, hm⟩ := qD hm
  refine zX (nd Tryz.f12 4084) 2 (by kernel_rfl) FUEL (fun o => qEf a6 o28 o) o39 (q_hl (CA a1 a6 v12 o28 0 o28.2.Dust) (qJo E a1 a6 v12 o28 FUEL 0 o28.2.Dust o39 h40)) ?_
  refine s_vu [] 7 [] [] [6] [(6, bx 50 [ci o39.Log, ci o39.Boards, ci (w64 ((w64 (o39.Log - o39.Boards)) - o39.Dust)), ci o39.Dust, ci o39.Value])] ?_
  refine s_vu [] 7 [11, 20] [] [2, 6] [(6, bx 50 [ci o39.Log, ci o39.Boards, ci (w64 ((w64 (o39.Log - o39.Boards)) - o39.Dust)), ci o39.Dust, ci (w64 ((w64 ((w64 (1000000 * o28.1)) + (w64 (a6.Chip * (w64 ((w64 (o39.Log - o39.Boards)) - o39.Dust)))))) + (w64 (a6.Dust * o39.Dust))))])] ?_
  refine s_vu [] 7 [19] [(13, vi 0)] [3, 6] [(3, bx 50 [ci o39.Log, ci o39.Boards, ci (w64 ((w64 (o39.Log - o39.Boards)) - o39.Dust)), ci o39.Dust, ci (w64 ((w64 ((w64 (1000000 * o28.1)) + (w64 (a6.Chip * (w64 ((w64 (o39.Log - o39.Boards)) - o39.Dust)))))) + (w64 (a6.Dust * o39.Dust))))])] ?_
  obtain rfl := oi hm
  refine q_rt ?_
  exact q_rm
end Saw
end Go.SL
