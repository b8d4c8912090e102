import Derived.Test.YtidlfgiogdjkaaaGreatDoorEBase
import Derived.Test.YtidlfgiogdjkaaaGreatDoorEFa8
import Derived.Test.YtidlfgiogdjkaaaGreatDoorEFa4
import Derived.Test.YtidlfgiogdjkaaaGreatDoorEFa7
import Derived.Test.YtidlfgiogdjkaaaGreatDoorEFa2
set_option linter.unusedVariables false
set_option linter.unusedSimpArgs false
namespace Go.SL
namespace Saw
open Go.Proofs
set_option maxHeartbeats 4000000
set_option maxRecDepth 100000
def EG (r : Bool) : V := vb r
def SK (r : Bool) : List (Nat × (Nat × O)) := []
def OZ (a1 : Rect) (a3 : Saw) (v5 : (List Span) × (List (List Node)) × Bool) (v10 : (List Int) × (List Int)) (x12 : Int) (x23 : Int) (x31 : Bool) : St :=
 ⟨[(4, vp 0 0), (6, vp 1 0), (10, vo 3 0 1 v5.2.1.length), (12, vo 4 0 1 v10.1.length), (13, vo 5 0 1 v10.2.length), (14, vi x12), (15, vp 6 0), (16, vb x31), (47, vo 2 0 2 v5.1.length), (48, vi ((v5.1.length : Nat) : Int)), (49, vi x12), (82, vo 4 0 1 v10.1.length), (83, vi ((v10.1.length : Nat) : Int)), (84, vi x23)], [(0, bx 33 (qH a1)), (1, bx 38 (qT a3)), (2, ro 0 31 2 v5.1.length (rf e_Span v5.1)), (3, ro 0 44 1 v5.2.1.length (rf (qD e_Node) v5.2.1)), (4, ro 0 3 1 v10.1.length (rf e_i64 v10.1)), (5, ro 0 3 1 v10.2.length (rf e_i64 v10.2)), (6, bx 31 [ci ((v5.1.getD x12.toNat default).A), ci ((v5.1.getD x12.toNat default).B)])]⟩
def BR (a1 : Rect) (a3 : Saw) (v5 : (List Span) × (List (List Node)) × Bool) (v10 : (List Int) × (List Int)) (x12 : Int) (x22 : Bool) (x23 : Int) : St :=
 ⟨[(4, vp 0 0), (6, vp 1 0), (10, vo 3 0 1 v5.2.1.length), (12, vo 4 0 1 v10.1.length), (13, vo 5 0 1 v10.2.length), (14, vi x12), (15, vp 6 0), (16, vb x22), (47, vo 2 0 2 v5.1.length), (48, vi ((v5.1.length : Nat) : Int)), (49, vi x12), (82, vo 4 0 1 v10.1.length), (83, vi ((v10.1.length : Nat) : Int)), (84, vi x23)], [(0, bx 33 (qH a1)), (1, bx 38 (qT a3)), (2, ro 0 31 2 v5.1.length (rf e_Span v5.1)), (3, ro 0 44 1 v5.2.1.length (rf (qD e_Node) v5.2.1)), (4, ro 0 3 1 v10.1.length (rf e_i64 v10.1)), (5, ro 0 3 1 v10.2.length (rf e_i64 v10.2)), (6, bx 31 [ci ((v5.1.getD x12.toNat default).A), ci ((v5.1.getD x12.toNat default).B)])]⟩
def CX (a1 : Rect) (a3 : Saw) (v5 : (List Span) × (List (List Node)) × Bool) (v10 : (List Int) × (List Int)) (x12 : Int) (x32 : Bool) : St :=
 ⟨[(4, vp 0 0), (6, vp 1 0), (10, vo 3 0 1 v5.2.1.length), (12, vo 4 0 1 v10.1.length), (13, vo 5 0 1 v10.2.length), (16, vb x32), (47, vo 2 0 2 v5.1.length), (48, vi ((v5.1.length : Nat) : Int)), (49, vi x12)], [(0, bx 33 (qH a1)), (1, bx 38 (qT a3)), (2, ro 0 31 2 v5.1.length (rf e_Span v5.1)), (3, ro 0 44 1 v5.2.1.length (rf (qD e_Node) v5.2.1)), (4, ro 0 3 1 v10.1.length (rf e_i64 v10.1)), (5, ro 0 3 1 v10.2.length (rf e_i64 v10.2))]⟩
def CQ (a1 : Rect) (a3 : Saw) (v5 : (List Span) × (List (List Node)) × Bool) (v10 : (List Int) × (List Int)) (x12 : Int) (x20 : Bool) : St :=
 ⟨[(4, vp 0 0), (6, vp 1 0), (10, vo 3 0 1 v5.2.1.length), (12, vo 4 0 1 v10.1.length), (13, vo 5 0 1 v10.2.length), (14, vi x12), (15, vp 6 0), (47, vo 2 0 2 v5.1.length), (48, vi ((v5.1.length : Nat) : Int)), (49, vi x12), (81, vb x20)], [(0, bx 33 (qH a1)), (1, bx 38 (qT a3)), (2, ro 0 31 2 v5.1.length (rf e_Span v5.1)), (3, ro 0 44 1 v5.2.1.length (rf (qD e_Node) v5.2.1)), (4, ro 0 3 1 v10.1.length (rf e_i64 v10.1)), (5, ro 0 3 1 v10.2.length (rf e_i64 v10.2)), (6, bx 31 [ci ((v5.1.getD x12.toNat default).A), ci ((v5.1.getD x12.toNat default).B)])]⟩
def BZ (a1 : Rect) (a3 : Saw) (v5 : (List Span) × (List (List Node)) × Bool) (v10 : (List Int) × (List Int)) (x12 : Int) : St :=
 ⟨[(4, vp 0 0), (6, vp 1 0), (10, vo 3 0 1 v5.2.1.length), (12, vo 4 0 1 v10.1.length), (13, vo 5 0 1 v10.2.length), (47, vo 2 0 2 v5.1.length), (48, vi ((v5.1.length : Nat) : Int)), (49, vi x12)], [(0, bx 33 (qH a1)), (1, bx 38 (qT a3)), (2, ro 0 31 2 v5.1.length (rf e_Span v5.1)), (3, ro 0 44 1 v5.2.1.length (rf (qD e_Node) v5.2.1)), (4, ro 0 3 1 v10.1.length (rf e_i64 v10.1)), (5, ro 0 3 1 v10.2.length (rf e_i64 v10.2))]⟩
def CR : St :=
 ⟨[], []⟩
def qAc (a1 : Rect) (a2 : List Product) (a3 : Saw) (v5 : (List Span) × (List (List Node)) × Bool) (x8 : Bool) : St :=
 ⟨[(1, vc (tl qC default a2)), (4, vp 0 0), (6, vp 1 0), (9, vo 2 0 2 v5.1.length), (10, vo 3 0 1 v5.2.1.length), (34, vb x8)], [(0, bx 33 (qH a1)), (1, bx 38 (qT a3)), (2, ro 0 31 2 v5.1.length (rf e_Span v5.1)), (3, ro 0 44 1 v5.2.1.length (rf (qD e_Node) v5.2.1))]⟩
theorem qEC (E : Env 0) (a1 : Rect) (a3 : Saw) (v5 : (List Span) × (List (List Node)) × Bool) (v10 : (List Int) × (List Int)) (x12 : Int) : ∀ (n : Nat) (x22 : Bool) (x23 : Int) (res : Bool), WV v5 v10 x12 n x22 x23 = some res → HL (kx E 117 0) (nd Tryz.f54 1025652) (zQ 2 (fun o => CX a1 a3 v5 v10 x12 o) res) n (BR a1 a3 v5 v10 x12 x22 x23) := by
 intro n
 induction n with
 | zero =>
  intro x22 x23 res hm
  cases hm
 | succ n ih =>
  intro x22 x23 res hm
  refine qN ?_
  refine s_vu [] 7 [] [(85, vb (decide (x23 < ((v10.1.length : Nat) : Int))))] [] [] ?_
  refine q_sq ?_
  refine q_cm hm (fun b24 hm => ?_) (fun b24 hm => ?_)
  ·refine q_sk ?_
   refine q_jn (ι := Bool) (fun p => OZ a1 a3 v5 v10 x12 x23 p) (fun p => VK x23 (WV v5 v10 x12 n) p = some res) ?_ ?_
   ·rintro x31 hm
    show H _ (OZ a1 a3 v5 v10 x12 x23 x31) _ _
    refine q_vu [] 7 [84] [(84, vi (w64 (x23 + 1)))] [] [] ?_
    exact q_hl (BR a1 a3 v5 v10 x12 x31 (w64 (x23 + 1))) (ih x31 (w64 (x23 + 1)) _ hm)
   ·refine q_bk 3 ?_
    obtain ⟨g25, hm⟩ := qI hm
    refine s_vu [qd 1 (Dir.none) (inb_of g25), qd 2 (Dir.none) (toNat_lt (inb_of g25))] 7 [85] [(17, vi x23), (18, vi (v10.1.getD x23.toNat default))] [] [] ?_
    rcases bif_c hm with ⟨b26, hm⟩ | ⟨b26, hm⟩
    ·refine q_du [qf 1 b26] [0, 1, 3, 3, 11, 3, 35, 123, 255, 511, 1023, 1023, 4095, 8191, 1023, 1023, 50175, 115711, 246783, 508927, 1033215, 2097151, 4194303, 8388607, 16777215] 7 [16, 17, 18] [(16, vb true)] [] [] ?_
     exact q_J (true) hm
    ·rcases bif_c hm with ⟨b27, hm⟩ | ⟨b27, hm⟩
     ·obtain ⟨g28, hm⟩ := qI hm
      obtain ⟨g29, hm⟩ := qI hm
      obtain ⟨g30, hm⟩ := qI hm
      refine q_du [qf 1 b26, qf 9 b27, qd 12 (Dir.none) (inb_of g28), qd 13 (Dir.none) (toNat_lt (inb_of g28)), qd 16 (Dir.none) (inb_of g29), qd 17 (Dir.none) (toNat_lt (inb_of g29)), qd 18 (Dir.none) (inb_of g30)] [0, 1, 3, 3, 11, 3, 35, 123, 255, 511, 1023, 1023, 4095, 8191, 1023, 1023, 50175, 115711, 246783, 508927, 1033215, 2097151, 4194303, 8388607, 16777215] 7 [16, 17, 18] [(16, vb ((v10.2.getD x23.toNat default) == (((v5.2.1.getD x12.toNat default).getD (0 : Int).toNat default).At)))] [] [] ?_
      exact q_J ((v10.2.getD x23.toNat default) == (((v5.2.1.getD x12.toNat default).getD (0 : Int).toNat default).At)) hm
     ·refine q_du [qf 1 b26, qf 9 b27] [0, 1, 3, 3, 11, 3, 35, 123, 255, 511, 1023, 1023, 4095, 8191, 1023, 1023, 50175, 115711, 246783, 508927, 1033215, 2097151, 4194303, 8388607, 16777215] 7 [16, 17, 18] [(16, vb false)] [] [] ?_
      exact q_J (false) hm
  ·refine q_ex 2 ?_
   obtain rfl := oi hm
   exact wM (by kernel_rfl) (by kernel_rfl)
theorem qEo (E : Env 0) (a1 : Rect) (a3 : Saw) (v5 : (List Span) × (List (List Node)) × Bool) (v10 : (List Int) × (List Int)) : ∀ (n : Nat) (x12 : Int) (res : Bool ⊕ Unit), JF a1 a3 v5 v10 n x12 = some res → HL (kx E 117 0) (nd Tryz.f54 500) (jB 0 (fun o => CR) (fun v st => RetQ Tryz.prog Tryz.f54 (EG v) (SK v) .ret st) res) n (BZ a1 a3 v5 v10 x12) := by
 intro n
 induction n with
 | zero =>
  intro x12 res hm
  cases hm
 | succ n ih =>
  intro x12 res hm
  refine qN ?_
  refine s_vu [] 6 [] [(50, vb (decide (x12 < ((v5.1.length : Nat) : Int))))] [] [] ?_
  refine q_sq ?_
  refine q_cm hm (fun b13 hm => ?_) (fun b13 hm => ?_)
  ·refine q_sk ?_
   refine q_sq ?_
   refine q_bk 1 ?_
   obtain ⟨g14, hm⟩ := qI hm
   refine s_vu [qd 1 (Dir.none) (inb_of g14), qd 2 (Dir.none) (toNat_lt (inb_of g14))] 6 [50] [(14, vi x12), (15, vp 6 0)] [] [(6, bx 31 [ci ((v5.1.getD x12.toNat default).A), ci ((v5.1.getD x12.toNat default).B)])] ?_
   refine q_sq ?_
   refine q_jn (ι := Bool) (fun p => CQ a1 a3 v5 v10 x12 p) (fun p => VI v5 v10 x12 (JF a1 a3 v5 v10 n) p = some res) ?_ ?_
   ·rintro x20 hm
    show H _ (CQ a1 a3 v5 v10 x12 x20) _ _
    refine q_cm hm (fun b21 hm => ?_) (fun b21 hm => ?_)
    ·refine s_vn [] 7 ⟨[(8, vb false)], []⟩ ?_
     obtain rfl := oi hm
     refine q_rt ?_
     refine zJ false ?_
     exact q_rm
    ·refine q_sk ?_
     refine s_vu [] 7 [81] [(16, vb false)] [] [] ?_
     refine q_sq ?_
     refine s_vu [] 7 [] [(82, vo 4 0 1 v10.1.length), (83, vi ((v10.1.length : Nat) : Int)), (84, vi 0)] [] [] ?_
     obtain ⟨o33, h34, hm⟩ := qB hm
     refine zL (nd Tryz.f54 1025652) 2 (by kernel_rfl) FUEL (fun o => CX a1 a3 v5 v10 x12 o) o33 (q_hl (BR a1 a3 v5 v10 x12 false 0) (qEC E a1 a3 v5 v10 x12 FUEL false 0 o33 h34)) ?_
     refine s_vu [] 7 [16] [(115, vb (!o33))] [] [] ?_
     refine q_cm hm (fun b35 hm => ?_) (fun b35 hm => ?_)
     ·refine s_vn [] 7 ⟨[(8, vb false)], []⟩ ?_
      obtain rfl := oi hm
      refine q_rt ?_
      refine zJ false ?_
      exact q_rm
     ·refine q_sk ?_
      refine q_vu [] 7 [49, 115] [(49, vi (w64 (x12 + 1)))] [] [] ?_
      exact q_hl (BZ a1 a3 v5 v10 (w64 (x12 + 1))) (ih (w64 (x12 + 1)) _ hm)
   ·obtain ⟨g15, hm⟩ := qI hm
    rcases bif_c hm with ⟨b16, hm⟩ | ⟨b16, hm⟩
    ·refine q_vu [qd 8 (Dir.none) (ET g15), qf 10 b16] 7 [] [(81, vb true)] [] [] ?_
     exact q_J (true) hm
    ·obtain ⟨g17, hm⟩ := qI hm
     rcases bif_c hm with ⟨b18, hm⟩ | ⟨b18, hm⟩
     ·refine q_vu [qd 8 (Dir.none) (ET g15), qf 10 b16, qd 13 (Dir.none) (inb_of g17), qd 14 (Dir.none) (toNat_lt (inb_of g17)), qf 18 b18] 7 [] [(81, vb true)] [] [] ?_
      exact q_J (true) hm
     ·obtain ⟨g19, hm⟩ := qI hm
      refine q_vu [qd 8 (Dir.none) (ET g15), qf 10 b16, qd 13 (Dir.none) (inb_of g17), qd 14 (Dir.none) (toNat_lt (inb_of g17)), qf 18 b18, qd 21 (Dir.none) (inb_of g17), qd 22 (Dir.none) (toNat_lt (inb_of g17)), qd 23 (Dir.none) (inb_of g19)] 7 [] [(81, vb ((((v5.2.1.getD x12.toNat default).getD (0 : Int).toNat default).Kind) != 1))] [] [] ?_
      exact q_J ((((v5.2.1.getD x12.toNat default).getD (0 : Int).toNat default).Kind) != 1) hm
  ·refine q_ex 0 ?_
   obtain rfl := oi hm
   exact jG () (by kernel_rfl) (by kernel_rfl)
theorem qHK (a1 : Rect) (a2 : List Product) (a3 : Saw) (a4 : List Node) (r : Bool) (hm : qAu a1 a2 a3 a4 = some r) : CtX Tryz.prog globs 54 0 0 [.agg (qH a1), .one (tl qC default a2), .agg (qT a3), .one (tl e_Node default a4)] [] (EG r) (SK r) := by
 unfold qAu at hm
 refine q_E Tryz.f54 117 fun E => ?_
 refine s_vn [] 0 ⟨[(1, vc (tl qC default a2)), (3, vc (tl e_Node default a4)), (4, vp 0 0), (6, vp 1 0)], [(0, bx 33 (qH a1)), (1, bx 38 (qT a3))]⟩ ?_
 obtain ⟨v5, h6, hm⟩ := qB hm
 refine s_vu [qk 4 [20, 22, 23] 2 ⟨[(20, va (qH a1)), (22, vi a3.Kerf), (23, vc (tl e_Node default a4))], []⟩ (qF0 a1 2 a3.Kerf a4 v5 h6)] 2 [3] [(9, vo 2 0 2 v5.1.length), (10, vo 3 0 1 v5.2.1.length), (11, vb v5.2.2)] [] [(2, ro 0 31 2 v5.1.length (rf e_Span v5.1)), (3, ro 0 44 1 v5.2.1.length (rf (qD e_Node) v5.2.1))] ?_
 refine q_sq ?_
 refine q_jn (ι := Bool) (fun p => qAc a1 a2 a3 v5 p) (fun p => LX a1 a2 a3 v5 p = some r) ?_ ?_
 ·rintro x8 hm
  show H _ (qAc a1 a2 a3 v5 x8) _ _
  refine q_cm hm (fun b9 hm => ?_) (fun b9 hm => ?_)
  ·refine s_vn [] 4 ⟨[(8, vb false)], []⟩ ?_
   obtain rfl := oi hm
   refine q_rt ?_
   exact q_rm
  ·refine q_sk ?_
   obtain ⟨v10, h11, hm⟩ := qB hm
   refine s_vu [qc 8 [36, 43] 4 (OR a2 (w64 (a1.Y.B - a1.Y.A)) v10 h11)] 4 [1, 34] [(12, vo 4 0 1 v10.1.length), (13, vo 5 0 1 v10.2.length)] [] [(4, ro 0 3 1 v10.1.length (rf e_i64 v10.1)), (5, ro 0 3 1 v10.2.length (rf e_i64 v10.2))] ?_
   refine q_sq ?_
   refine s_vu [] 6 [9] [(47, vo 2 0 2 v5.1.length), (48, vi ((v5.1.length : Nat) : Int)), (49, vi 0)] [] [] ?_
   obtain ⟨u38, h37, hm⟩ := qB hm
   refine zR (nd Tryz.f54 500) 0 (by kernel_rfl) FUEL (fun o => CR) (fun v st => RetQ Tryz.prog Tryz.f54 (EG v) (SK v) .ret st) u38 (q_hl (BZ a1 a3 v5 v10 0) (qEo E a1 a3 v5 v10 FUEL 0 u38 h37)) ?_ ?_
   ·rintro v39 rfl st hr
    obtain rfl := oi hm
    exact hr
   ·rintro o36 rfl
    replace hm : _ = some r := hm
    refine s_vn [] 6 ⟨[(8, vb true)], []⟩ ?_
    obtain rfl := oi hm
    refine q_rt ?_
    exact q_rm
 ·rcases bif_c hm with ⟨b7, hm⟩ | ⟨b7, hm⟩
  ·refine q_vu [qf 2 b7] 4 [11] [(34, vb true)] [] [] ?_
   exact q_J (true) hm
  ·refine q_vu [qf 2 b7] 4 [11] [(34, vb (((v5.1.length : Nat) : Int) == 0))] [] [] ?_
   exact q_J (((v5.1.length : Nat) : Int) == 0) hm
def UV (r : Int) : V := vi r
def UQ (r : Int) : List (Nat × (Nat × O)) := []
def KP (a1 : List Int) (a2 : Int) (x3 : Int) : St :=
 ⟨[(0, vc (tl e_i64 default a1)), (1, vi a2), (7, vi ((a1.length : Nat) : Int)), (8, vi x3)], []⟩
def NO : St :=
 ⟨[], []⟩
theorem qBf (E : Env 0) (a1 : List Int) (a2 : Int) : ∀ (n : Nat) (x3 : Int) (res : Int ⊕ Unit), TJ a1 a2 n x3 = some res → HL (kx E 19 0) (nd Tryz.f108 52) (jB 0 (fun o => NO) (fun v st => RetQ Tryz.prog Tryz.f108 (UV v) (UQ v) .ret st) res) n (KP a1 a2 x3) := by
 intro n
 induction n with
 | zero =>
  intro x3 res hm
  cases hm
 | succ n ih =>
  intro x3 res hm
  refine qN ?_
  refine s_vu [] 0 [] [(9, vb (decide (x3 < ((a1.length : Nat) : Int))))] [] [] ?_
  refine q_sq ?_
  refine q_cm hm (fun b4 hm => ?_) (fun b4 hm => ?_)
  ·refine q_sk ?_
   refine q_sq ?_
   refine q_bk 1 ?_
   refine s_vu [] 0 [9] [(5, vi x3)] [] [] ?_
   obtain ⟨g5, hm⟩ := qI hm
   refine s_vu [qd 3 (Dir.none) (inb_of g5)] 0 [] [(16, vb (a2 == (a1.getD x3.toNat default)))] [] [] ?_
   refine q_cm hm (fun b6 hm => ?_) (fun b6 hm => ?_)
   ·refine s_vn [] 0 ⟨[(4, vi x3)], []⟩ ?_
    obtain rfl := oi hm
    refine q_rt ?_
    refine zJ x3 ?_
    exact q_rm
   ·refine q_sk ?_
    refine q_vu [] 0 [5, 8, 16] [(8, vi (w64 (x3 + 1)))] [] [] ?_
    exact q_hl (KP a1 a2 (w64 (x3 + 1))) (ih (w64 (x3 + 1)) _ hm)
  ·refine q_ex 0 ?_
   obtain rfl := oi hm
   exact jG () (by kernel_rfl) (by kernel_rfl)
theorem qDA (a1 : List Int) (a2 : Int) (r : Int) (hm : BS a1 a2 = some r) : CtX Tryz.prog globs 108 0 0 [.one (tl e_i64 default a1), .one (ci a2)] [] (UV r) (UQ r) := by
 unfold BS at hm
 refine q_E Tryz.f108 19 fun E => ?_
 refine s_vn [] 0 ⟨[(0, vc (tl e_i64 default a1)), (1, vi a2)], []⟩ ?_
 refine q_sq ?_
 refine s_vu [] 0 [] [(7, vi ((a1.length : Nat) : Int)), (8, vi 0)] [] [] ?_
 obtain ⟨u9, h8, hm⟩ := qB hm
 refine zR (nd Tryz.f108 52) 0 (by kernel_rfl) FUEL (fun o => NO) (fun v st => RetQ Tryz.prog Tryz.f108 (UV v) (UQ v) .ret st) u9 (q_hl (KP a1 a2 0) (qBf E a1 a2 FUEL 0 u9 h8)) ?_ ?_
 ·rintro v10 rfl st hr
  obtain rfl := oi hm
  exact hr
 ·rintro o7 rfl
  replace hm : _ = some r := hm
  refine s_vn [] 0 ⟨[(4, vi (-1))], []⟩ ?_
  obtain rfl := oi hm
  refine q_rt ?_
  exact q_rm
def NK (r : Bool) : V := vb r
def WC (r : Bool) : List (Nat × (Nat × O)) := []
theorem qCv (r : Bool) : yJ (WC r) := by
 intro i k o h
 unfold WC at h
 cases h
theorem qBg (a1 : List Int) (a2 : Int) (r : Bool) (hm : TN a1 a2 = some r) : CtX Tryz.prog globs 53 0 0 [.one (tl e_i64 default a1), .one (ci a2)] [] (NK r) (WC r) := by
 unfold TN at hm
 refine q_E Tryz.f53 9 fun E => ?_
 refine s_vn [] 0 ⟨[(0, vc (tl e_i64 default a1)), (1, vi a2)], []⟩ ?_
 obtain ⟨v3, h4, hm⟩ := qB hm
 refine s_vn [qc 2 [5, 6] 0 (qDA a1 a2 v3 h4)] 0 ⟨[(4, vb (decide (v3 ≥ 0)))], []⟩ ?_
 obtain rfl := oi hm
 refine q_rt ?_
 exact q_rm
def FE (r : Bool) : V := vb r
def XH (r : Bool) : List (Nat × (Nat × O)) := []
theorem qKD (r : Bool) : yJ (XH r) := by
 intro i k o h
 unfold XH at h
 cases h
def qAL (a1 : Pattern) (a2 : List Product) (a3 : Saw) (v14 : (List Span) × (List (List Node)) × Bool) (v17 : (List Int)) (x19 : Int) (x26 : Bool) : St :=
 ⟨[(1, vc (tl qC default a2)), (3, vp 0 0), (5, vp 1 0), (8, vo 3 0 1 v14.2.1.length), (10, vo 4 0 1 v17.length), (11, vi x19), (12, vp 5 0), (43, vo 2 0 2 v14.1.length), (44, vi ((v14.1.length : Nat) : Int)), (45, vi x19), (70, vb x26)], [(0, bx 46 (AJ a1)), (1, bx 38 (qT a3)), (2, ro 0 31 2 v14.1.length (rf e_Span v14.1)), (3, ro 0 44 1 v14.2.1.length (rf (qD e_Node) v14.2.1)), (4, ro 0 3 1 v17.length (rf e_i64 v17)), (5, bx 31 [ci ((v14.1.getD x19.toNat default).A), ci ((v14.1.getD x19.toNat default).B)])]⟩
def FU (a1 : Pattern) (a2 : List Product) (a3 : Saw) (v14 : (List Span) × (List (List Node)) × Bool) (v17 : (List Int)) (x19 : Int) : St :=
 ⟨[(1, vc (tl qC default a2)), (3, vp 0 0), (5, vp 1 0), (8, vo 3 0 1 v14.2.1.length), (10, vo 4 0 1 v17.length), (43, vo 2 0 2 v14.1.length), (44, vi ((v14.1.length : Nat) : Int)), (45, vi x19)], [(0, bx 46 (AJ a1)), (1, bx 38 (qT a3)), (2, ro 0 31 2 v14.1.length (rf e_Span v14.1)), (3, ro 0 44 1 v14.2.1.length (rf (qD e_Node) v14.2.1)), (4, ro 0 3 1 v17.length (rf e_i64 v17))]⟩
def qA7 : St :=
 ⟨[], []⟩
def qAS (a1 : Pattern) (a2 : List Product) (a3 : Saw) (x12 : Bool) : St :=
 ⟨[(1, vc (tl qC default a2)), (3, vp 0 0), (5, vp 1 0), (27, vb x12)], [(0, bx 46 (AJ a1)), (1, bx 38 (qT a3))]⟩
theorem qFH (E : Env 0) (a1 : Pattern) (a2 : List Product) (a3 : Saw) (v14 : (List Span) × (List (List Node)) × Bool) (v17 : (List Int)) : ∀ (n : Nat) (x19 : Int) (res : Bool ⊕ Unit), PD a1 a2 a3 v14 v17 n x19 = some res → HL (kx E 85 0) (nd Tryz.f22 1012) (jB 0 (fun o => qA7) (fun v st => RetQ Tryz.prog Tryz.f22 (FE v) (XH v) .ret st) res) n (FU a1 a2 a3 v14 v17 x19) := by
 intro n
 induction n with
 | zero =>
  intro x19 res hm
  cases hm
 | succ n ih =>
  intro x19 res hm
  refine qN ?_
  refine s_vu [] 5 [] [(46, vb (decide (x19 < ((v14.1.length : Nat) : Int))))] [] [] ?_
  refine q_sq ?_
  refine q_cm hm (fun b20 hm => ?_) (fun b20 hm => ?_)
  ·refine q_sk ?_
   refine q_sq ?_
   refine q_bk 1 ?_
   obtain ⟨g21, hm⟩ := qI hm
   refine s_vu [qd 1 (Dir.none) (inb_of g21), qd 2 (Dir.none) (toNat_lt (inb_of g21))] 5 [46] [(11, vi x19), (12, vp 5 0)] [] [(5, bx 31 [ci ((v14.1.getD x19.toNat default).A), ci ((v14.1.getD x19.toNat default).B)])] ?_
   refine q_sq ?_
   refine q_jn (ι := Bool) (fun p => qAL a1 a2 a3 v14 v17 x19 p) (fun p => SU a1 a2 a3 v14 x19 (PD a1 a2 a3 v14 v17 n) p = some res) ?_ ?_
   ·rintro x26 hm
    show H _ (qAL a1 a2 a3 v14 v17 x19 x26) _ _
    refine q_cm hm (fun b27 hm => ?_) (fun b27 hm => ?_)
    ·refine s_vn [] 6 ⟨[(6, vb false)], []⟩ ?_
     obtain rfl := oi hm
     refine q_rt ?_
     refine zJ false ?_
     exact q_rm
    ·refine q_sk ?_
     obtain ⟨g28, hm⟩ := qI hm
     obtain ⟨v29, h30, hm⟩ := qB hm
     refine s_du [qd 9 (Dir.none) (inb_of g28), qd 10 (Dir.none) (toNat_lt (inb_of g28)), qc 11 [75, 76, 77, 81] 6 (qHK (Rect.mk a1.Frame.X (v14.1.getD x19.toNat default)) a2 a3 (v14.2.1.getD x19.toNat default) v29 h30)] [0, 1, 3, 0, 15, 0, 0, 0, 0, 384, 896, 2047, 4095] 6 [11, 12, 70] [(83, vb (!v29))] [5] [] ?_
     refine q_cm hm (fun b31 hm => ?_) (fun b31 hm => ?_)
     ·refine s_vn [] 6 ⟨[(6, vb false)], []⟩ ?_
      obtain rfl := oi hm
      refine q_rt ?_
      refine zJ false ?_
      exact q_rm
     ·refine q_sk ?_
      refine q_vu [] 6 [45, 83] [(45, vi (w64 (x19 + 1)))] [] [] ?_
      exact q_hl (FU a1 a2 a3 v14 v17 (w64 (x19 + 1))) (ih (w64 (x19 + 1)) _ hm)
   ·obtain ⟨g22, hm⟩ := qI hm
    rcases bif_c hm with ⟨b23, hm⟩ | ⟨b23, hm⟩
    ·refine q_vu [qd 9 (Dir.none) (ET g22), qf 11 b23] 6 [] [(70, vb true)] [] [] ?_
     exact q_J (true) hm
    ·obtain ⟨v24, h25, hm⟩ := qB hm
     refine q_vu [qd 9 (Dir.none) (ET g22), qf 11 b23, qd 18 (dex (cen [] [] 6 0 (NK v24) (WC v24) [61, 62, 67] [4])) (wR (K := (kx E 85 0)) (b := false) ⟨[(61, vb false), (62, vo 4 0 1 v17.length), (67, vi (w64 (((v14.1.getD x19.toNat default).B) - ((v14.1.getD x19.toNat default).A))))], [(4, ro 0 3 1 v17.length (rf e_i64 v17))]⟩ (opAt (rg Tryz.f22 129636) 18) [] [] 6 (o1 (Nat.le_refl v17.length)) rfl (qBg v17 (w64 (((v14.1.getD x19.toNat default).B) - ((v14.1.getD x19.toNat default).A))) v24 h25) (.inr ⟨(by kernel_rfl), qCv v24⟩) (by kernel_rfl))] 6 [] [(70, vb (!v24))] [] [] ?_
     exact q_J (!v24) hm
  ·refine q_ex 0 ?_
   obtain rfl := oi hm
   exact jG () (by kernel_rfl) (by kernel_rfl)
theorem plan_Member_ok (a1 : Pattern) (a2 : List Product) (a3 : Saw) (r : Bool) (hm : NT a1 a2 a3 = some r) : CtX Tryz.prog globs 22 0 0 [.agg (AJ a1), .one (tl qC default a2), .agg (qT a3)] [] (FE r) (XH r) := by
 unfold NT at hm
 refine q_E Tryz.f22 85 fun E => ?_
 refine s_vn [] 0 ⟨[(1, vc (tl qC default a2)), (3, vp 0 0), (5, vp 1 0)], [(0, bx 46 (AJ a1)), (1, bx 38 (qT a3))]⟩ ?_
 refine q_sq ?_
 refine q_jn (ι := Bool) (fun p => qAS a1 a2 a3 p) (fun p => BC a1 a2 a3 p = some r) ?_ ?_
 ·rintro x12 hm
  show H _ (qAS a1 a2 a3 x12) _ _
  refine q_cm hm (fun b13 hm => ?_) (fun b13 hm => ?_)
  ·refine s_vn [] 2 ⟨[(6, vb false)], []⟩ ?_
   obtain rfl := oi hm
   refine q_rt ?_
   exact q_rm
  ·refine q_sk ?_
   obtain ⟨v14, h15, hm⟩ := qB hm
   refine s_vu [qk 6 [30, 32, 34] 2 ⟨[(30, va (qH a1.Frame)), (32, vi a3.Kerf), (34, vc (tl e_Node default a1.Nodes))], []⟩ (qF0 a1.Frame 3 a3.Kerf a1.Nodes v14 h15)] 2 [27] [(7, vo 2 0 2 v14.1.length), (8, vo 3 0 1 v14.2.1.length), (9, vb v14.2.2)] [] [(2, ro 0 31 2 v14.1.length (rf e_Span v14.1)), (3, ro 0 44 1 v14.2.1.length (rf (qD e_Node) v14.2.1))] ?_
   refine q_sq ?_
   refine s_vu [] 4 [9] [(40, vb (!v14.2.2))] [] [] ?_
   refine q_cm hm (fun b16 hm => ?_) (fun b16 hm => ?_)
   ·refine s_vn [] 4 ⟨[(6, vb false)], []⟩ ?_
    obtain rfl := oi hm
    refine q_rt ?_
    exact q_rm
   ·refine q_sk ?_
    obtain ⟨v17, h18, hm⟩ := qB hm
    refine s_vu [qc 1 [41] 4 (LW a2 v17 h18)] 4 [40] [(10, vo 4 0 1 v17.length)] [] [(4, ro 0 3 1 v17.length (rf e_i64 v17))] ?_
    refine q_sq ?_
    refine s_vu [] 5 [7] [(43, vo 2 0 2 v14.1.length), (44, vi ((v14.1.length : Nat) : Int)), (45, vi 0)] [] [] ?_
    obtain ⟨u34, h33, hm⟩ := qB hm
    refine zR (nd Tryz.f22 1012) 0 (by kernel_rfl) FUEL (fun o => qA7) (fun v st => RetQ Tryz.prog Tryz.f22 (FE v) (XH v) .ret st) u34 (q_hl (FU a1 a2 a3 v14 v17 0) (qFH E a1 a2 a3 v14 v17 FUEL 0 u34 h33)) ?_ ?_
    ·rintro v35 rfl st hr
     obtain rfl := oi hm
     exact hr
    ·rintro o32 rfl
     replace hm : _ = some r := hm
     refine s_vn [] 5 ⟨[(6, vb true)], []⟩ ?_
     obtain rfl := oi hm
     refine q_rt ?_
     exact q_rm
 ·obtain ⟨v4, h5, hm⟩ := qB hm
  rcases bif_c hm with ⟨b6, hm⟩ | ⟨b6, hm⟩
  ·refine q_vu [qc 1 [13] 2 (wV a2 v4 h5), qf 3 b6] 2 [] [(27, vb true)] [] [] ?_
   exact q_J (true) hm
  ·obtain ⟨v7, h8, hm⟩ := qB hm
   rcases bif_c hm with ⟨b9, hm⟩ | ⟨b9, hm⟩
   ·refine q_vu [qc 1 [13] 2 (wV a2 v4 h5), qf 3 b6, qk 6 [16, 17, 18] 2 ⟨[(16, vb false), (17, va (qT a3)), (18, va [ci 0, ci 0, ci 0])], []⟩ (BK a3 (Rates.mk 0 0 0) v7 h8), qf 9 b9] 2 [] [(27, vb true)] [] [] ?_
    exact q_J (true) hm
   ·obtain ⟨v10, h11, hm⟩ := qB hm
    refine q_vu [qc 1 [13] 2 (wV a2 v4 h5), qf 3 b6, qk 6 [16, 17, 18] 2 ⟨[(16, vb false), (17, va (qT a3)), (18, va [ci 0, ci 0, ci 0])], []⟩ (BK a3 (Rates.mk 0 0 0) v7 h8), qf 9 b9, qk 12 [22, 24] 2 ⟨[(22, vb false), (24, va (qH a1.Frame))], []⟩ (AH a1.Frame v10 h11)] 2 [] [(27, vb (v10 != 0))] [] [] ?_
    exact q_J (v10 != 0) hm
end Saw
end Go.SL
